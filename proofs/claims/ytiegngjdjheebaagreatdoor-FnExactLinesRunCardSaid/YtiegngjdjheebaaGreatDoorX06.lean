/- Part 6 of the proof: the walk over values, the plain model, contracts of the functions of the program. -/
import Derived.Test.YtiegngjdjheebaaGreatDoorX04
import Derived.Test.YtiegngjdjheebaaGreatDoorX02
import Derived.Test.YtiegngjdjheebaaGreatDoorX03
import Derived.Test.YtiegngjdjheebaaGreatDoorX05
set_option linter.all false
namespace Go.Proofs.YtiegngjdjheebaaGreatDoor.W
open Go Go.RowKit Go.Proofs Go.Proofs.YtiegngjdjheebaaGreatDoor.VL Go.Proofs.YtiegngjdjheebaaGreatDoor.M
attribute [local congr] optK_congr guardK_congr condK_congr runT_congr runD_congr wpI_congr CallV_congr LoopI_congr pureK_congr effK_congr calK_congr stepV_congr doV_congr exN_congr exB_congr retF_congr retQ_congr gK_congr condW_congr ldK_congr stoK_congr
attribute [local go_sem] argL_cons argL_nil argH_nil argH_cons chH_getH wpI_seq wpI_reg wpI_drw wpI_ret cond_k condW_t condW_f wpI_skip wpI_block wpI_exit wpI_loop exN_n exN_r exN_e exB_n exB_r exB_h exB_m runT_k kT_e runT_nil runD_k kD_e runD_nil step_u step_k gK_t gK_f do_mv do_bino bo_add bo_sub bo_mul bo_subu bo_quo bo_rem bo_xor bo_eql bo_neq bo_lss bo_leq bo_gtr bo_geq bo_cat bo_eqs bo_nes do_pick do_call do_cal calK_f do_box do_alloc do_ldk ldK_s do_stok stoK_s do_fad do_nilc do_not do_neg do_len do_lens do_ext do_eqs do_beq do_isn do_cvi do_sls do_idx do_mn do_mx do_build do_mkf do_s2b do_b2s do_slv do_iad do_bsl do_mks do_app do_aps apsG_s ev_t ev_c app_some app_none
attribute [local go_sem] List.nil_append List.cons_append List.append_nil getL_hit getL_miss getH_nil getH_hit getH_miss nm_eq ne_eq Nat.reduceEqDiff not_false_eq_true Nat.reduceAdd Nat.add_zero Nat.zero_add if_true if_false ite_true ite_false pureK_s effK_s optK_s gdV_t gdV_f gdV_s pick_b ge_iff_le gt_iff_lt cond_true cond_false fresh_k cells_agg cells_int cells_bool cells_str cells_own cells_sl cells_nils ld_pv ld_pa ld_ip ldVar_t ldVar_f ldArr_t ldArr_f ldRow_t ldRow_f ldA_s ld1_s fad_pv fad_pa fad_ip nilc_pv nilc_pa nilc_ip not_b neg_i cvi_i ext_t retF_n retF_r
attribute [local go_sem] resV_k rvs_nil rvs_t rvs_c fstO_s consO_s resK_s resL_1 resL_2 resL_3 resL_4  Option.some.injEq List.map_cons List.map_nil List.all_cons List.all_nil Bool.and_true Bool.and_self Bool.not_true Bool.not_false Option.map_some Option.map_none sls_s slsG_s loV_n loV_i hiV_n hiV_i idx_s mn_i mx_i s2b_s b2s_s bytO_s bytes_nil bytes_cons conB_s slv_sl slv_own slv_nils slvG_s slvN_s slvO_s iad_sl iadG_map take_map drop_map List.length_map iad_own iad_view iadO_a iadW_a mks_i rowO_nils rowO_sl rowO_own rowA_a eq_self appG_nils appG_own appO_a guardP_T mapA_s bld_nil mkf_nil bldF_e fill_nil fill_cons mkf_e lens_s len_nils len_sl len_own len_view isn_nile isn_erre List.getElem?_cons_zero List.getElem?_cons_succ List.length_cons List.length_nil decide_true decide_false Int.toNat_natCast Int.cast_ofNat_Int Int.reduceLT Int.reduceLE Int.reduceEq Int.reduceAdd Int.reduceSub Int.reduceMul Int.reduceNeg Int.reduceToNat List.getD_cons_zero List.getD_cons_succ not_true_eq_false not_false_eq_true Bool.false_eq_true Bool.true_eq_false reduceCtorEq
attribute [local go_sem] E.row Pc.row Pair.row Part.row Strm.row Flw.row Pk.row Door.row Conv.row World.row Ev.row rdV E.eta Pc.eta Pair.eta Part.eta Strm.eta Pk.eta Flw.eta Conv.eta Door.eta World.eta Ev.eta
attribute [local go_sem] sub_ok st_pv st_pa stVar_v stArr_a Nat.le_refl List.drop_zero List.drop_succ_cons List.take_succ_cons List.take_zero setR Nat.reduceLeDiff
attribute [local go_sem] wk_bot wk2_bot wk1_bot wk_undef wk_tup_e wk2_agg_e wk_agg_e wk1_fn_e wk2_fn_e wk_fn_e wkl_nil wkl_cons wkh_var_e wkh_arr_e wkh_fresh_e wkh_dead_v wkh_dead_a wkh_dead_d wk0_undef wk0_int wk0_bool wk0_str wk0_nils wk0_nils_sl wk0_nilp wk0_nile wk0_erre wk0_sl wk0_iptr wk0_own wk0_view wk0_pv wk0_pa fzA_a fzW_a fzP_v wk0_own_sl wk0_view_sl wk0_pv_iptr WkS_nil WkS_cons WkN_nil WkN_cons nonB_nil nonB_cons getN_nil getN_hit getN_miss pinOk_0 pinOk_s and_true true_and and_self
attribute [local go_sem] bot_int one_int unt_int clo_int bot_bool one_bool unt_bool clo_bool bot_str one_str unt_str clo_str bot_nils one_nils unt_nils clo_nils bot_nilp one_nilp unt_nilp clo_nilp bot_nile one_nile unt_nile clo_nile bot_erre one_erre unt_erre clo_erre bot_raw one_raw unt_raw clo_raw bot_sl one_sl unt_sl clo_sl bot_own one_own unt_own clo_own bot_view one_view unt_view clo_view bot_pv one_pv unt_pv clo_pv bot_pa one_pa unt_pa clo_pa bot_iptr one_iptr unt_iptr clo_iptr unt_agg unt_fn one_fn
attribute [local go_sem] rn_tup rn_agg rn2_agg rn_fn rn2_fn rnfn1 rn_bot rn2_bot rn1_bot rn0_int rn0_bool rn0_str rn0_nils rn0_nilp rn0_nile rn0_erre rn0_sl rn0_iptr rn0_own rn0_view rn0_pv rn0_pa hrn_var hrn_arr hrn_dead outU_nil outU_cons deads_nil deads_cons bk_ge bk_lt nsF_0 nsF_s chH_0 chH_s chH_n newN_e andB_s eqR_nil eqR_i eqR_b eqR_s mapX_f mapX_t eqs_a beq_f beq_t live_arr live_var nsl_nil nsl_cons Nat.reduceMul Nat.reduceLT Nat.zero_le Nat.not_lt_zero
attribute [local go_sem] mV lD lA fD bN eX oP nP sR i0 s0
def ic215:IC:=sR [oP 6 (.mv (.c s0)),oP 7 (.mv (.c (.bool false)))] (sR [mV 9 0,oP 10 (.lens (.t 9)),mV 8 10] (.seq (sR [mV 11 1,mV 12 8,bN 13 .gtr 11 12,mV 14 13,⟨some 15,some (14,false),.mv (.t 1)⟩,⟨some 16,some (14,false),.mv (.t 2)⟩,⟨some 17,some (14,false),.lens (.t 16)⟩,⟨some 18,some (14,false),.bin .add (.t 15) (.t 17)⟩,⟨some 19,some (14,false),.bin .gtr (.t 18) (.c (.int .i64 40))⟩,oP 20 (.pick (.t 14) (.c (.bool true)) (.t 19))] (.cond (.t 20) (sR [mV 21 0,mV 6 21,oP 7 (.mv (.c (.bool false)))] .ret) .skip)) (.seq (sR [mV 22 1,mV 23 2,oP 24 (.lens (.t 23)),bN 25 .add 22 24,mV 26 8,bN 27 .leq 25 26] (.cond (.t 27) (sR [mV 28 0,mV 6 28,oP 7 (.mv (.c (.bool true)))] .ret) .skip)) (sR [mV 29 0,mV 30 2,mV 31 8,mV 32 1,bN 33 .sub 31 32,oP 34 (.sls (.t 30) (some (.t 33)) none),bN 35 .add 29 34,mV 6 35,oP 7 (.mv (.c (.bool true)))] .ret))))
theorem dg215:Dg Tryz.prog 215 Tryz.f215 ic215 [(.t 6),(.t 7)]:=⟨Tryz.func215,by kernel_rfl,by kernel_rfl⟩
theorem c215 (came:B) (n:Int) (text:B) (hn:0≤n∧n≤1000) (hc:came.length≤1000) (ht:text.length≤1000):FnR Tryz.prog G 215 [.str came,.int .i64 n,.str text] (.tup [.str (behind came n text).1,.bool (behind came n text).2]):=by
 refine mF dg215 Tryz.ntmps215 ?_
 simp only[ic215,go_sem]
 with_reducible repeat' (first|rw[i64w (by omega)];try simp only[go_sem]|refine br ?_ ?_<;>intro h e<;>(try simp only[e,go_sem])<;>clear e|refine sd ?_<;>try simp only[go_sem]|fail)
 ·have:behind came n text=(came,false):=by
   unfold behind;rw[if_pos (by simp;omega)]
  rw[this];exact⟨rfl,rfl⟩
 ·have:behind came n text=(came,false):=by
   unfold behind;rw[if_pos (by simp;omega)]
  rw[this];exact⟨rfl,rfl⟩
 ·have:behind came n text=(came,true):=by
   unfold behind;rw[if_neg (by simp;omega),if_pos (by omega)]
  rw[this];exact⟨rfl,rfl⟩
 ·refine pureG (by simp;omega) ?_
  simp only[go_sem]
  have:behind came n text=(came++text.drop (came.length - n).toNat,true):=by
   unfold behind;rw[if_neg (by simp;omega),if_neg (by omega)]
  rw[this,List.take_length];exact⟨rfl,rfl⟩
def ic96:IC:=sR [oP 2 (.mv (.c (.bool false)))] (sR [mV 3 0,oP 4 (.call 109 [.t 3]),mV 5 4,⟨some 6,some (5,true),.mv (.t 0)⟩,⟨some 7,some (5,true),.lens (.t 6)⟩,⟨some 8,some (5,true),.bin .leq (.t 7) (.c (.int .i64 24))⟩,oP 9 (.pick (.t 5) (.t 8) (.c (.bool false))),mV 10 9,⟨some 11,some (10,true),.mv (.t 0)⟩,⟨some 12,some (10,true),.call 38 [.t 11]⟩,⟨some 13,some (10,true),.bin .eql (.t 12) (.c i0)⟩,oP 14 (.pick (.t 10) (.t 13) (.c (.bool false))),mV 2 14] .ret)
theorem dg96:Dg Tryz.prog 96 Tryz.f96 ic96 [(.t 2)]:=⟨Tryz.func96,by kernel_rfl,by kernel_rfl⟩
theorem c96 (t:B) (hl:t.length≤2000000):FnR Tryz.prog G 96 [.str t] (.bool (saying t)):=by
 refine mF dg96 Tryz.ntmps96 ?_
 simp only[ic96,go_sem]
 have c1:=c109 t hl
 have c2:=c38 t hl
 with_reducible repeat' (first|refine br ?_ ?_<;>intro h e<;>(try simp only[e,go_sem])<;>clear e|rw[i64w (by omega)]|refine sd ?_<;>try simp only[go_sem]|(first|refine cr (c1 ..) ?_|refine cr (c2 ..) ?_)<;>try simp only[go_sem]|fail)
 all_goals simp_all[saying]
 all_goals omega
def ic97:IC:=sR [oP 2 (.mv (.c (.bool false)))] (sR [mV 5 0,oP 6 (.call 139 [.t 5]),mV 3 6] (.seq (sR [oP 4 (.mv (.c i0))] (.block 0 (.loop (.seq (sR [mV 7 4,mV 8 3,oP 9 (.len (.t 8)),bN 10 .lss 7 9] (.cond (.t 10) .skip (.exit 0))) (.seq (.block 1 (sR [mV 13 3,mV 14 4,oP 15 (.iad 2 (.t 13) (.t 14)),lA 16 2 15,oP 17 (.call 110 [.t 16])] (.cond (.t 17) (sR [oP 2 (.mv (.c (.bool false)))] .ret) .skip))) (.reg [mV 11 4,oP 12 (.bin .add (.t 11) (.c (.int .i64 1))),mV 4 12])))))) (sR [oP 2 (.mv (.c (.bool true)))] .ret)))
theorem dg97:Dg Tryz.prog 97 Tryz.f97 ic97 [(.t 2)]:=⟨Tryz.func97,by kernel_rfl,by kernel_rfl⟩
theorem c97 (t:B) (hl:t.length≤2000000):FnR Tryz.prog G 97 [.str t] (.bool (ownT t)):=by
 refine mF dg97 Tryz.ntmps97 ?_
 simp only[ic97,go_sem]
 refine callR (c139 t hl) rfl rfl ?_
 simp only[go_sem]
 have hnl:(textNames t).length≤2000000:=by
  have h1:=textPieces_len t
  have h2:=names_le (textPieces t)
  unfold textNames;omega
 unfold ownT
 generalize textNames t=l at *
 refine loopN (fun i:Nat=>⟨getL [(3,.sl 2 (l.map E.row)),(4,.int .i64 (i:Int))],getH []⟩) (fun i=>l.length - i) (fun i=>i≤l.length∧(l.take i).any E.door=false) 0 (leQ []) ⟨Nat.zero_le _,by simp⟩ ?_
 intro i ⟨hi,ha⟩
 simp only[go_sem]
 by_cases h:(i:Int)<l.length
 ·simp only[eq_true h,go_sem]
  have hil:i<l.length:=by omega
  have hg:l.getD i default=l[i]:=by simp[List.getD,hil]
  refine effG (by omega) ?_
  simp only[hg,go_sem]
  with_reducible repeat' (first|refine br ?_ ?_<;>intro h e<;>(try simp only[e,go_sem,hg])<;>clear e|rw[i64w (by omega)]|refine sd ?_<;>try simp only[go_sem,hg]|(first|refine cr (c110 ..) ?_)<;>try simp only[go_sem,hg]|fail)
  ·have:l.any E.door=true:=List.any_eq_true.2 ⟨_,List.getElem_mem hil,by assumption⟩
   rw[this];rfl
  ·refine⟨i+1,by omega,⟨by omega, ?_⟩,(leQ [])⟩
   rw[List.take_add_one,List.getElem?_eq_getElem hil]
   simp only[Option.toList_some,List.any_append,ha,List.any_cons,List.any_nil,Bool.or_false,Bool.false_or]
   assumption
 ·simp only[eq_false h,go_sem]
  have:i=l.length:=by omega
  subst this
  rw[List.take_length] at ha
  rw[ha];rfl
def ic54:IC:=sR [oP 4 (.box 45 (.t 0)),oP 5 (.box 45 (.t 1)),oP 8 (.alloc 47 [i0,i0,i0,i0,s0,s0,i0,i0,s0,s0]),oP 9 (.mv (.c (.bool false)))] (.seq (sR [lA 10 2 4,oP 11 (.call 94 [.t 10]),oP 12 (.un .not (.t 11)),mV 13 12,⟨some 14,some (13,false),.ld 2 true (.t 5)⟩,⟨some 15,some (13,false),.call 95 [.t 14]⟩,⟨some 16,some (13,false),.un .not (.t 15)⟩,oP 17 (.pick (.t 13) (.c (.bool true)) (.t 16)),mV 18 17,⟨some 19,some (18,false),.mv (.t 2)⟩,⟨some 20,some (18,false),.call 96 [.t 19]⟩,⟨some 21,some (18,false),.un .not (.t 20)⟩,oP 22 (.pick (.t 18) (.c (.bool true)) (.t 21)),mV 23 22,⟨some 24,some (23,false),.mv (.t 2)⟩,⟨some 25,some (23,false),.call 97 [.t 24]⟩,⟨some 26,some (23,false),.un .not (.t 25)⟩,oP 27 (.pick (.t 23) (.c (.bool true)) (.t 26)),mV 28 27,⟨some 29,some (28,false),.mv (.t 3)⟩,⟨some 30,some (28,false),.call 96 [.t 29]⟩,⟨some 31,some (28,false),.un .not (.t 30)⟩,oP 32 (.pick (.t 28) (.c (.bool true)) (.t 31))] (.cond (.t 32) (sR [oP 33 (.build [i0,i0,i0,i0,s0,s0,i0,i0,s0,s0] []),nP (.sto 10 (.t 8) (.t 33)),oP 9 (.mv (.c (.bool false)))] .ret) .skip)) (sR [lA 34 2 4,lA 35 2 5,mV 36 2,mV 37 3,oP 38 (.build [i0,i0,i0,i0,s0,s0,i0,i0,s0,s0] [(0,(2,.t 34)),(2,(2,.t 35)),(4,(1,.t 36)),(5,(1,.t 37))]),nP (.sto 10 (.t 8) (.t 38)),oP 9 (.mv (.c (.bool true)))] .ret))
theorem dg54:Dg Tryz.prog 54 Tryz.f54 ic54 [(.cell 8 10 true),(.t 9)]:=⟨Tryz.func54,by kernel_rfl,by kernel_rfl⟩
theorem c54 (i o:E) (up down:B) (h1:up.length≤2000000) (h2:down.length≤2000000):FnR Tryz.prog G 54 [.agg [.int .i64 i.a,.int .i64 i.p],.agg [.int .i64 o.a,.int .i64 o.p],.str up,.str down]
 (.tup [.agg (Conv.row ((convNew i o up down).getD .zero)),.bool (convNew i o up down).isSome]):=by
 refine mF dg54 Tryz.ntmps54 ?_
 simp only[ic54,go_sem]
 have c1:=c96 up h1
 have c2:=c96 down h2
 have c3:=c97 up h1
 with_reducible repeat' (first|refine br ?_ ?_<;>intro h e<;>(try simp only[e,go_sem])<;>clear e|rw[i64w (by omega)]|refine sd ?_<;>try simp only[go_sem]|(first|refine cr (c94 ..) ?_|refine cr (c95 ..) ?_|refine cr (c1 ..) ?_|refine cr (c2 ..) ?_|refine cr (c3 ..) ?_)<;>try simp only[go_sem]|fail)
 all_goals simp_all[convNew,Conv.zero,E.zero]
def ic98:IC:=sR [oP 1 (.box 47 (.t 0)),oP 2 (.mv (.c (.bool false)))] (sR [fD 6 0 1,lA 7 2 6,fD 8 2 1,lA 9 2 8,fD 10 4 1,lD 11 1 10,fD 12 5 1,lD 13 1 12,oP 14 (.call 54 [.t 7,.t 9,.t 11,.t 13]),mV 5 14,eX 15 5 0,eX 16 5 1,oP 3 (.alloc 47 [i0,i0,i0,i0,s0,s0,i0,i0,s0,s0]),nP (.sto 10 (.t 3) (.t 15)),mV 4 16] (sR [mV 17 4,mV 18 17,⟨some 19,some (18,true),.fad 6 (.t 1)⟩,⟨some 20,some (18,true),.ld 1 false (.t 19)⟩,⟨some 21,some (18,true),.fad 4 (.t 1)⟩,⟨some 22,some (18,true),.ld 1 false (.t 21)⟩,⟨some 23,some (18,true),.lens (.t 22)⟩,⟨some 24,some (18,true),.call 100 [.t 20,.c i0,.t 23]⟩,oP 25 (.pick (.t 18) (.t 24) (.c (.bool false))),mV 26 25,⟨some 27,some (26,true),.fad 7 (.t 1)⟩,⟨some 28,some (26,true),.ld 1 false (.t 27)⟩,⟨some 29,some (26,true),.fad 5 (.t 1)⟩,⟨some 30,some (26,true),.ld 1 false (.t 29)⟩,⟨some 31,some (26,true),.lens (.t 30)⟩,⟨some 32,some (26,true),.call 100 [.t 28,.c i0,.t 31]⟩,oP 33 (.pick (.t 26) (.t 32) (.c (.bool false))),mV 34 33,⟨some 35,some (34,true),.fad 8 (.t 1)⟩,⟨some 36,some (34,true),.ld 1 false (.t 35)⟩,⟨some 37,some (34,true),.call 109 [.t 36]⟩,oP 38 (.pick (.t 34) (.t 37) (.c (.bool false))),mV 39 38,⟨some 40,some (39,true),.fad 9 (.t 1)⟩,⟨some 41,some (39,true),.ld 1 false (.t 40)⟩,⟨some 42,some (39,true),.call 109 [.t 41]⟩,oP 43 (.pick (.t 39) (.t 42) (.c (.bool false))),mV 2 43] .ret))
theorem dg98:Dg Tryz.prog 98 Tryz.f98 ic98 [(.t 2)]:=⟨Tryz.func98,by kernel_rfl,by kernel_rfl⟩
theorem c98 (c:Conv) (h1:c.up.length≤2000000) (h2:c.down.length≤2000000) (h3:c.upGot.length≤2000000) (h4:c.downGot.length≤2000000):FnR Tryz.prog G 98 [.agg [.int .i64 c.ins.a,.int .i64 c.ins.p,.int .i64 c.out.a,.int .i64 c.out.p,.str c.up,.str c.down,.int .i64 c.upAck,.int .i64 c.downAck,.str c.upGot,.str c.downGot]] (.bool (convOk c)):=by
 refine mF dg98 Tryz.ntmps98 ?_
 simp only[ic98,go_sem]
 refine callR (c54 c.ins c.out c.up c.down h1 h2) rfl rfl ?_
 simp only[go_sem]
 have c1:=c109 c.upGot h3
 have c2:=c109 c.downGot h4
 with_reducible repeat' (first|refine br ?_ ?_<;>intro h e<;>(try simp only[e,go_sem])<;>clear e|rw[i64w (by omega)]|refine sd ?_<;>try simp only[go_sem]|(first|refine cr (c100 ..) ?_|refine cr (c1 ..) ?_|refine cr (c2 ..) ?_)<;>try simp only[go_sem]|fail)
 all_goals simp_all[convOk]
def ic143:IC:=sR [oP 5 (.box 47 (.t 0)),oP 10 (.alloc 70 [i0,i0,i0,i0,i0,i0,s0]),oP 11 (.mv (.c (.bool false)))] (sR [fD 14 0 5,lA 15 2 14,fD 16 2 5,lA 17 2 16,mV 18 3,oP 19 (.build [i0,i0,i0,i0,i0,i0,s0] [(0,(1,.c (.int .i64 1))),(1,(2,.t 15)),(3,(2,.t 17)),(5,(1,.t 18))]),oP 12 (.alloc 70 [i0,i0,i0,i0,i0,i0,s0]),nP (.sto 7 (.t 12) (.t 19))] (sR [fD 20 4 5,lD 21 1 20,mV 13 21] (.seq (sR [mV 22 1,oP 23 (.un .not (.t 22))] (.cond (.t 23) (sR [fD 24 2 5,lA 25 2 24,fD 26 1 12,nP (.sto 2 (.t 26) (.t 25))] (sR [mV 27 2,oP 28 (.build [i0,i0] [(0,(1,.c (.int .i64 9))),(1,(1,.t 27))]),fD 29 3 12,nP (.sto 2 (.t 29) (.t 28))] (.reg [fD 30 5 5,lD 31 1 30,mV 13 31]))) .skip)) (.seq (sR [mV 32 3,mV 33 13,oP 34 (.lens (.t 33)),oP 35 (.bin .sub (.t 34) (.c (.int .i64 1))),oP 36 (.call 100 [.t 32,.c i0,.t 35]),oP 37 (.un .not (.t 36)),mV 38 37,⟨some 39,some (38,false),.mv (.t 4)⟩,⟨some 40,some (38,false),.bin .lss (.t 39) (.c (.int .i64 1))⟩,oP 41 (.pick (.t 38) (.c (.bool true)) (.t 40)),mV 42 41,⟨some 43,some (42,false),.mv (.t 1)⟩,⟨some 44,some (42,false),.un .not (.t 43)⟩,⟨some 45,some (42,false),.mv (.t 44)⟩,⟨some 46,some (45,true),.fad 3 (.t 12)⟩,⟨some 47,some (45,true),.ld 2 true (.t 46)⟩,⟨some 48,some (45,true),.call 110 [.t 47]⟩,⟨some 49,some (45,true),.un .not (.t 48)⟩,⟨some 50,some (42,false),.pick (.t 45) (.t 49) (.c (.bool false))⟩,oP 51 (.pick (.t 42) (.c (.bool true)) (.t 50))] (.cond (.t 51) (sR [oP 52 (.build [i0,i0,i0,i0,i0,i0,s0] []),nP (.sto 7 (.t 10) (.t 52)),oP 11 (.mv (.c (.bool false)))] .ret) .skip)) (sR [mV 53 13,mV 54 3,mV 55 3,mV 56 4,mV 57 13,oP 58 (.lens (.t 57)),mV 59 3,bN 60 .sub 58 59,oP 61 (.mn (.t 56) (.t 60)),bN 62 .add 55 61,oP 63 (.sls (.t 53) (some (.t 54)) (some (.t 62))),fD 64 6 12,nP (.sto 1 (.t 64) (.t 63))] (sR [lA 65 7 12,nP (.sto 7 (.t 10) (.t 65)),oP 11 (.mv (.c (.bool true)))] .ret))))))
theorem dg143:Dg Tryz.prog 143 Tryz.f143 ic143 [(.cell 10 7 true),(.t 11)]:=⟨Tryz.func143,by kernel_rfl,by kernel_rfl⟩
theorem c143 (c:Conv) (up:Bool) (port n m:Int) (h1:c.up.length≤2000000) (h2:c.down.length≤2000000):FnR Tryz.prog G 143 [.agg [.int .i64 c.ins.a,.int .i64 c.ins.p,.int .i64 c.out.a,.int .i64 c.out.p,.str c.up,.str c.down,.int .i64 c.upAck,.int .i64 c.downAck,.str c.upGot,.str c.downGot],.bool up,.int .i64 port,.int .i64 n,.int .i64 m]
 (.tup [.agg (Pk.row ((say c up port n m).getD .zero)),.bool (say c up port n m).isSome]):=by
 refine mF dg143 Tryz.ntmps143 ?_
 simp only[ic143,go_sem]
 cases up<;>simp only[go_sem]
 ·have hno:=fun h=>say_no (c:=c) (up:=false) (port:=port) (n:=n) (m:=m) h
  have hyes:=fun h1 h2 h3=>say_yes (c:=c) (up:=false) (port:=port) (n:=n) (m:=m) h1 h2 h3
  simp only[cond_false,true_and,Bool.false_eq_true,false_or] at hno hyes
  rw[i64w (by omega)]
  refine callR (c100 n 0 ((c.down.length:Int) - 1)) rfl rfl ?_
  cases hw:within n 0 ((c.down.length:Int) - 1)<;>simp only[go_sem]
  ·rw[hno (.inl hw)];simp[Pk.zero,E.zero]
  have hw2:=M.within_iff.1 hw
  have w1:IntKind.i64.wrap ((c.down.length:Int) - n)=c.down.length - n:=i64w (by omega)
  have w2:1≤m→IntKind.i64.wrap (n+min m ((c.down.length:Int) - n))=n+min m ((c.down.length:Int) - n):=fun _=>i64w (by omega)
  with_reducible repeat' (first|refine br ?_ ?_<;>intro h e<;>(try simp only[e,go_sem,w1])<;>clear e|rw[i64w (by omega)]|refine sd ?_<;>try simp only[go_sem,w1]|(first|refine cr (c110 ..) ?_)<;>try simp only[go_sem,w1]|fail)
  ·rw[hno (.inr (.inl (by assumption)))];simp[Pk.zero,E.zero]
  ·rw[hyes hw (by omega) (by assumption),take_drop_len (by omega) (by omega)]
   simp
  ·rw[hno (.inr (.inr (by assumption)))];simp[Pk.zero,E.zero]
 ·have hno:=fun h=>say_no (c:=c) (up:=true) (port:=port) (n:=n) (m:=m) h
  have hyes:=fun h1 h2 h3=>say_yes (c:=c) (up:=true) (port:=port) (n:=n) (m:=m) h1 h2 h3
  simp only[cond_true,true_or,true_implies,Bool.true_eq_false,false_and,or_false] at hno hyes
  rw[i64w (by omega)]
  refine callR (c100 n 0 ((c.up.length:Int) - 1)) rfl rfl ?_
  cases hw:within n 0 ((c.up.length:Int) - 1)<;>simp only[go_sem]
  ·rw[hno (.inl hw)];simp[Pk.zero,E.zero]
  have hw2:=M.within_iff.1 hw
  have w1:IntKind.i64.wrap ((c.up.length:Int) - n)=c.up.length - n:=i64w (by omega)
  have w2:1≤m→IntKind.i64.wrap (n+min m ((c.up.length:Int) - n))=n+min m ((c.up.length:Int) - n):=fun _=>i64w (by omega)
  with_reducible repeat' (first|refine br ?_ ?_<;>intro h e<;>(try simp only[e,go_sem,w1])<;>clear e|rw[i64w (by omega)]|refine sd ?_<;>try simp only[go_sem,w1]|(first|refine cr (c110 ..) ?_)<;>try simp only[go_sem,w1]|fail)
  ·rw[hno (.inr (by assumption))];simp[Pk.zero,E.zero]
  ·rw[hyes hw (by omega),take_drop_len (by omega) (by omega)]
   simp
def worldA (w:M.World) (r:V) (out:List Hs):Prop:=r=.agg [.own 0 w.convs.length,.own 1 w.door.map.length,.own 2 w.door.flows.length,.own 3 w.nets.length]∧out=[.arr 47 10 (w.convs.map Conv.row),.arr 88 3 (w.door.map.map Pair.row),.arr 181 8 (w.door.flows.map Flw.row),.arr 70 7 (w.nets.map Pk.row)]
theorem worldRet {w:M.World} {l:List (Nat×V)} {mm:List (Nat×Hs)} {d c:Nat} (n0 n1 n2 n3:Nat) (h4:getL l d=.pv c 0)
 (m4:getH mm c=.var 41 [.own n0 w.convs.length,.own n1 w.door.map.length,.own n2 w.door.flows.length,.own n3 w.nets.length])
 (m0:getH mm n0=.arr 47 10 (w.convs.map Conv.row)) (m1:getH mm n1=.arr 88 3 (w.door.map.map Pair.row)) (m2:getH mm n2=.arr 181 8 (w.door.flows.map Flw.row)) (m3:getH mm n3=.arr 70 7 (w.nets.map Pk.row))
 (hne:[n0,n1,n2,n3].Nodup):retQ [.cell d 4 true] 0 (worldA w) .ret ⟨getL l,getH mm⟩:=by
 refine retN (.agg [.own 0 w.convs.length,.own 1 w.door.map.length,.own 2 w.door.flows.length,.own 3 w.nets.length]) [.arr 47 10 (w.convs.map Conv.row),.arr 88 3 (w.door.map.map Pair.row),.arr 181 8 (w.door.flows.map Flw.row),.arr 70 7 (w.nets.map Pk.row)] [(0,n0),(1,n1),(2,n2),(3,n3)] ?_ ⟨rfl,rfl⟩ ?_ (by simpa[argH,getN] using hne) (by simp only[go_sem])
 ·simp only[go_sem,h4,m4]
 ·simp only[go_sem,m0,m1,m2,m3]
theorem opt_b (o:Option Pk):(bif o.isSome then some (o.getD .zero) else none)=o:=by cases o<;>rfl
def ic144:IC:=sR [oP 2 (.box 41 (.t 0)),oP 3 (.box 45 (.t 1)),oP 4 (.mv (.c i0))] (.seq (sR [oP 5 (.mv (.c i0))] (.block 0 (.loop (.seq (sR [mV 6 5,fD 7 1 2,fD 8 0 7,lD 9 1 8,oP 10 (.len (.t 9)),bN 11 .lss 6 10] (.cond (.t 11) .skip (.exit 0))) (.seq (.block 1 (.seq (.drw [0,1,3,0,15,31,63,0,255] [(0,fD 14 1 2),(1,fD 15 0 14),(2,lD 16 1 15),(3,mV 17 5),(4,oP 18 (.iad 3 (.t 16) (.t 17))),(5,fD 19 1 18),(6,lA 20 2 19),(7,lA 21 2 3),(8,oP 22 (.eqs false [.i,.i] (.t 20) (.t 21)))]) (.cond (.t 22) (sR [fD 23 1 2,fD 24 0 23,lD 25 1 24,mV 26 5,oP 27 (.iad 3 (.t 25) (.t 26)),fD 28 0 27,lD 29 1 28,mV 4 29] .ret) .skip))) (.reg [mV 12 5,oP 13 (.bin .add (.t 12) (.c (.int .i64 1))),mV 5 13])))))) (sR [oP 4 (.mv (.c i0))] .ret))
theorem dg144:Dg Tryz.prog 144 Tryz.f144 ic144 [(.t 4)]:=⟨Tryz.func144,by kernel_rfl,by kernel_rfl⟩
theorem c144 (w:M.World) (i:E) (hl:w.door.map.length≤2000000):FnR Tryz.prog G 144 [.agg [.sl 10 (w.convs.map Conv.row),.sl 3 (w.door.map.map Pair.row),.sl 8 (w.door.flows.map Flw.row),.sl 7 (w.nets.map Pk.row)],.agg [.int .i64 i.a,.int .i64 i.p]] (.int .i64 (portOf w.door.map i)):=by
 refine mF dg144 Tryz.ntmps144 ?_
 simp only[ic144,go_sem]
 refine loopN (fun k:Nat=>⟨getL [(2,.pv 1002 0),(3,.pv 1003 0),(5,.int .i64 (k:Int))],getH [(1002,.var 41 [.sl 10 (w.convs.map Conv.row),.sl 3 (w.door.map.map Pair.row),.sl 8 (w.door.flows.map Flw.row),.sl 7 (w.nets.map Pk.row)]),(1003,.var 45 [.int .i64 i.a,.int .i64 i.p])]⟩) (fun k=>w.door.map.length - k)
  (fun k=>k≤w.door.map.length∧portOf w.door.map i=portOf (w.door.map.drop k) i) 0 (leQ []) ⟨Nat.zero_le _,by simp⟩ ?_
 intro k ⟨hk,ha⟩
 simp only[go_sem]
 by_cases h:(k:Int)<w.door.map.length
 ·have hil:k<w.door.map.length:=by omega
  have hg:w.door.map.getD k default=w.door.map[k]:=by simp[List.getD,hil]
  rw[List.drop_eq_getElem_cons hil,portOf_cons] at ha
  simp only[eq_true h,go_sem]
  with_reducible repeat' (first|refine br ?_ ?_<;>intro h e<;>(try simp only[e,go_sem,hg,E.ext_iff'])<;>clear e|rw[i64w (by omega)]|refine sd ?_<;>try simp only[go_sem,hg,E.ext_iff']|fail)
  ·rw[if_pos (by assumption)] at ha
   rw[ha]
  ·rw[if_neg (by assumption)] at ha
   exact⟨k+1,by omega,⟨by omega,ha⟩,(leQ [])⟩
 ·simp only[eq_false h,go_sem]
  have:k=w.door.map.length:=by omega
  subst this
  rw[ha,List.drop_length];rfl
def ic108:IC:=sR [oP 2 (.box 41 (.t 0)),oP 3 (.box 70 (.t 1)),oP 4 (.mv (.c (.bool false)))] (.seq (sR [oP 5 (.mv (.c i0))] (.block 0 (.loop (.seq (sR [mV 6 5,fD 7 0 2,lD 8 1 7,oP 9 (.len (.t 8)),bN 10 .lss 6 9] (.cond (.t 10) .skip (.exit 0))) (.seq (.block 1 (.seq (.drw [0,1,0,7,15,31,0,64,255] [(0,fD 13 0 2),(1,lD 14 1 13),(2,mV 15 5),(3,oP 16 (.iad 10 (.t 14) (.t 15))),(4,fD 17 2 16),(5,lA 18 2 17),(6,fD 19 1 3),(7,lA 20 2 19),(8,oP 21 (.eqs false [.i,.i] (.t 18) (.t 20)))]) (.cond (.t 21) (sR [oP 4 (.mv (.c (.bool false)))] .ret) .skip))) (.reg [mV 11 5,oP 12 (.bin .add (.t 11) (.c (.int .i64 1))),mV 5 12])))))) (sR [lA 22 7 3,oP 23 (.call 60 [.t 22]),mV 24 23,⟨some 25,some (24,true),.fad 1 (.t 3)⟩,⟨some 26,some (24,true),.ld 2 true (.t 25)⟩,⟨some 27,some (24,true),.call 95 [.t 26]⟩,oP 28 (.pick (.t 24) (.t 27) (.c (.bool false))),mV 29 28,⟨some 30,some (29,true),.fad 3 (.t 3)⟩,⟨some 31,some (29,true),.ld 2 true (.t 30)⟩,⟨some 32,some (29,true),.call 110 [.t 31]⟩,oP 33 (.pick (.t 29) (.t 32) (.c (.bool false))),mV 4 33] .ret))
theorem dg108:Dg Tryz.prog 108 Tryz.f108 ic108 [(.t 4)]:=⟨Tryz.func108,by kernel_rfl,by kernel_rfl⟩
theorem c108 (w:M.World) (p:Pk) (hl:w.convs.length≤2000000) (ht:p.text.length≤2000000):FnR Tryz.prog G 108 [.agg [.sl 10 (w.convs.map Conv.row),.sl 3 (w.door.map.map Pair.row),.sl 8 (w.door.flows.map Flw.row),.sl 7 (w.nets.map Pk.row)],.agg [.int .i64 p.kind,.int .i64 p.frm.a,.int .i64 p.frm.p,.int .i64 p.to.a,.int .i64 p.to.p,.int .i64 p.at_,.str p.text]] (.bool (stranger w p)):=by
 refine mF dg108 Tryz.ntmps108 ?_
 simp only[ic108,go_sem]
 refine loopN (fun k:Nat=>⟨getL [(2,.pv 1002 0),(3,.pv 1003 0),(5,.int .i64 (k:Int))],getH [(1002,.var 41 [.sl 10 (w.convs.map Conv.row),.sl 3 (w.door.map.map Pair.row),.sl 8 (w.door.flows.map Flw.row),.sl 7 (w.nets.map Pk.row)]),(1003,.var 70 [.int .i64 p.kind,.int .i64 p.frm.a,.int .i64 p.frm.p,.int .i64 p.to.a,.int .i64 p.to.p,.int .i64 p.at_,.str p.text])]⟩) (fun k=>w.convs.length - k)
  (fun k=>k≤w.convs.length∧(w.convs.take k).any (fun c=>decide (c.out=p.frm))=false) 0 (leQ []) ⟨Nat.zero_le _,by simp⟩ ?_
 intro k ⟨hk,ha⟩
 simp only[go_sem]
 by_cases h:(k:Int)<w.convs.length
 ·have hil:k<w.convs.length:=by omega
  have hg:w.convs.getD k default=w.convs[k]:=by simp[List.getD,hil]
  simp only[eq_true h,go_sem]
  with_reducible repeat' (first|refine br ?_ ?_<;>intro h e<;>(try simp only[e,go_sem,hg,E.ext_iff'])<;>clear e|rw[i64w (by omega)]|refine sd ?_<;>try simp only[go_sem,hg,E.ext_iff']|fail)
  ·have:w.convs.any (fun c=>decide (c.out=p.frm))=true:=List.any_eq_true.2 ⟨_,List.getElem_mem hil,by simpa using(by assumption)⟩
   simp[stranger,this]
  ·refine⟨k+1,by omega,⟨by omega, ?_⟩,(leQ [])⟩
   rw[List.take_add_one,List.getElem?_eq_getElem hil]
   simp only[Option.toList_some,List.any_append,ha,List.any_cons,List.any_nil,Bool.or_false,Bool.false_or,decide_eq_false_iff_not]
   assumption
 ·simp only[eq_false h,go_sem]
  have:k=w.convs.length:=by omega
  subst this
  rw[List.take_length] at ha
  have c1:=c60 p ht
  with_reducible repeat' (first|refine br ?_ ?_<;>intro h e<;>(try simp only[e,go_sem])<;>clear e|rw[i64w (by omega)]|refine sd ?_<;>try simp only[go_sem]|(first|refine cr (c1 ..) ?_|refine cr (c95 ..) ?_|refine cr (c110 ..) ?_)<;>try simp only[go_sem]|fail)
  all_goals simp_all[stranger,Pk.inward]
theorem say_port (c:Conv) (port n m:Int):say c true port n m=say c true 0 n m:=rfl
def ic105:IC:=sR [oP 2 (.box 41 (.t 0)),oP 3 (.box 83 (.t 1)),oP 4 (.alloc 70 [i0,i0,i0,i0,i0,i0,s0]),oP 5 (.mv (.c (.bool false)))] (.seq (sR [fD 7 1 3,lD 8 1 7,fD 9 0 2,lD 10 1 9,oP 11 (.len (.t 10)),oP 12 (.bin .sub (.t 11) (.c (.int .i64 1))),oP 13 (.call 100 [.t 8,.c i0,.t 12]),oP 14 (.un .not (.t 13))] (.cond (.t 14) (sR [oP 15 (.build [i0,i0,i0,i0,i0,i0,s0] []),nP (.sto 7 (.t 4) (.t 15)),oP 5 (.mv (.c (.bool false)))] .ret) .skip)) (sR [fD 16 0 2,lD 17 1 16,fD 18 1 3,lD 19 1 18,oP 20 (.iad 10 (.t 17) (.t 19)),lA 21 10 20,oP 6 (.alloc 47 [i0,i0,i0,i0,s0,s0,i0,i0,s0,s0]),nP (.sto 10 (.t 6) (.t 21))] (.seq (.drw [0,0,2,6,0,0,32,112,0,256,0,1024,4095,8191,8191,32767,65535] [(0,lA 22 10 6),(1,fD 23 0 3),(2,lD 24 1 23),(3,oP 25 (.bin .eql (.t 24) (.c (.int .i64 1)))),(4,lA 26 4 2),(5,fD 27 0 6),(6,lA 28 2 27),(7,oP 29 (.call 144 [.t 26,.t 28])),(8,fD 30 2 3),(9,lD 31 1 30),(10,fD 32 3 3),(11,lD 33 1 32),(12,oP 34 (.call 143 [.t 22,.t 25,.t 29,.t 31,.t 33])),(13,eX 35 34 0),(14,eX 36 34 1),(15,nP (.sto 7 (.t 4) (.t 35))),(16,mV 5 36)]) .ret)))
theorem dg105:Dg Tryz.prog 105 Tryz.f105 ic105 [(.cell 4 7 true),(.t 5)]:=⟨Tryz.func105,by kernel_rfl,by kernel_rfl⟩
theorem c105 (w:M.World) (e:Ev) (hm:w.door.map.length≤2000000) (hc:w.convs.length≤2000000) (ht:∀c∈w.convs,c.up.length≤2000000∧c.down.length≤2000000):FnR Tryz.prog G 105 [.agg [.sl 10 (w.convs.map Conv.row),.sl 3 (w.door.map.map Pair.row),.sl 8 (w.door.flows.map Flw.row),.sl 7 (w.nets.map Pk.row)],.agg [.int .i64 e.kind,.int .i64 e.a,.int .i64 e.b,.int .i64 e.c,.int .i64 e.pkt.kind,.int .i64 e.pkt.frm.a,.int .i64 e.pkt.frm.p,.int .i64 e.pkt.to.a,.int .i64 e.pkt.to.p,.int .i64 e.pkt.at_,.str e.pkt.text]]
 (.tup [.agg (Pk.row ((sayW w (decide (e.kind=1)) e.a e.b e.c).getD .zero)),.bool (sayW w (decide (e.kind=1)) e.a e.b e.c).isSome]):=by
 refine mF dg105 Tryz.ntmps105 ?_
 simp only[ic105,go_sem]
 generalize hw:within e.a 0 ((w.convs.length:Int) - 1)=b
 have hw2:b=true→0≤e.a∧e.a≤(w.convs.length:Int) - 1:=fun h=>M.within_iff.1 (hw.trans h)
 rw[i64w (by omega)]
 refine callR (c100 e.a 0 ((w.convs.length:Int) - 1)) rfl rfl ?_
 rw[hw]
 cases b<;>simp only[go_sem]
 ·have:sayW w (decide (e.kind=1)) e.a e.b e.c=none:=by simp[sayW,hw]
  rw[this]
  simp[Pk.zero,E.zero]
 have hw2:=hw2 rfl
 have hil:e.a.toNat<w.convs.length:=by omega
 have hg:w.convs.getD e.a.toNat default=w.convs[e.a.toNat]:=by simp[List.getD,hil]
 have hcv:=ht _ (List.getElem_mem hil)
 have hx:sayW w (decide (e.kind=1)) e.a e.b e.c=say w.convs[e.a.toNat] (decide (e.kind=1)) (portOf w.door.map w.convs[e.a.toNat].ins) e.b e.c:=by
  simp only[sayW,hw,if_true,List.getElem?_eq_getElem hil]
  cases decide (e.kind=1)
  ·rfl
  ·simp only[cond_true];rw[say_port _ (portOf _ _)]
 rw[hx]
 generalize hcc:w.convs[e.a.toNat]=c at *
 have p1:=c144 w c.ins hm
 have p2:=c143 c (decide (e.kind=1)) (portOf w.door.map c.ins) e.b e.c hcv.1 hcv.2
 with_reducible repeat' (first|refine br ?_ ?_<;>intro h e<;>(try simp only[e,go_sem,hg])<;>clear e|rw[i64w (by omega)]|refine sd ?_<;>try simp only[go_sem,hg]|(first|refine cr (p1 ..) ?_|refine cr (p2 ..) ?_)<;>try simp only[go_sem,hg]|fail)
def ic106:IC:=sR [oP 3 (.box 41 (.t 0)),oP 4 (.box 70 (.t 1)),oP 6 (.alloc 41 [.nils,.nils,.nils,.nils])] (.seq (sR [mV 7 2,mV 8 7,⟨some 9,some (8,true),.fad 3 (.t 3)⟩,⟨some 10,some (8,true),.ld 1 false (.t 9)⟩,⟨some 11,some (8,true),.len (.t 10)⟩,⟨some 12,some (8,true),.bin .lss (.t 11) (.c (.int .i64 10))⟩,oP 13 (.pick (.t 8) (.t 12) (.c (.bool false)))] (.cond (.t 13) (.reg [fD 14 3 3,lD 15 1 14,lA 16 7 4,oP 17 (.bsl 70 7 [.t 16]),oP 18 (.app 70 7 (.t 15) (.t 17)),fD 19 3 3,nP (.sto 1 (.t 19) (.t 18))]) .skip)) (sR [lA 20 4 3,nP (.sto 4 (.t 6) (.t 20))] .ret))
theorem dg106:Dg Tryz.prog 106 Tryz.f106 ic106 [(.cell 6 4 true)]:=⟨Tryz.func106,by kernel_rfl,by kernel_rfl⟩
theorem c106 (w:M.World) (p:Pk) (ok:Bool) (hn:w.nets.length≤2000000):FnP Tryz.prog G 106 0 [.arr 47 10 (w.convs.map Conv.row),.arr 88 3 (w.door.map.map Pair.row),.arr 181 8 (w.door.flows.map Flw.row),.arr 70 7 (w.nets.map Pk.row)] [.agg [.own 0 w.convs.length,.own 1 w.door.map.length,.own 2 w.door.flows.length,.own 3 w.nets.length],.agg [.int .i64 p.kind,.int .i64 p.frm.a,.int .i64 p.frm.p,.int .i64 p.to.a,.int .i64 p.to.p,.int .i64 p.at_,.str p.text],.bool ok] (worldA (send w (bif ok then some p else none))):=by
 refine mP dg106 Tryz.ntmps106 ⟨_,_,rfl,rfl⟩ ?_
 simp only[ic106,go_sem]
 have hno:send w none=w:=rfl
 have hfull:¬w.nets.length<10→send w (some p)=w:=fun h=>by simp only[send];rw[if_neg h]
 cases ok<;>simp only[go_sem]
 ·rw[hno]
  exact worldRet (c:=1006) 0 1 2 3 (by simp only[go_sem]) (by simp only[go_sem]) (by simp only[go_sem]) (by simp only[go_sem]) (by simp only[go_sem]) (by simp only[go_sem]) (by decide)
 with_reducible repeat' (first|refine br ?_ ?_<;>intro h e<;>(try simp only[e,go_sem])<;>clear e|rw[i64w (by omega)]|refine sd ?_<;>try simp only[go_sem]|fail)
 ·have hx:send w (some p)={ w with nets:=w.nets++[p] }:=by simp only[send];rw[if_pos (by omega)]
  rw[hx]
  refine worldRet (c:=1006) 0 1 2 1018 (by simp only[go_sem]) (by simp only[go_sem];simp) (by simp only[go_sem]) (by simp only[go_sem]) (by simp only[go_sem]) (by simp only[go_sem];simp[Pk.row]) (by decide)
 ·rw[hfull (by omega)]
  exact worldRet (c:=1006) 0 1 2 3 (by simp only[go_sem]) (by simp only[go_sem]) (by simp only[go_sem]) (by simp only[go_sem]) (by simp only[go_sem]) (by simp only[go_sem]) (by decide)
def putA (m:List Pair) (s:Strm) (n:Int) (t:B) (out:Bool) (r:V) (o:List Hs):Prop :=
 (put m s n t out).1=m∧r=.tup [.own 0 m.length,.agg [.str (put m s n t out).2.1.inn,.sl 2 ((put m s n t out).2.1.parts.map Part.row)],.bool (put m s n t out).2.2]∧o=[.arr 88 3 (m.map Pair.row)]
def putB (m:List Pair) (s:Strm) (n:Int) (t:B) (out:Bool) (r:V) (o:List Hs):Prop :=
 (put m s n t out).2.2=true∧r=.tup [.own 1 (put m s n t out).1.length,.agg [.str (put m s n t out).2.1.inn,.sl 2 ((put m s n t out).2.1.parts.map Part.row)],.bool true]∧o=[.dead,.arr 88 3 ((put m s n t out).1.map Pair.row)]
theorem live_dead:Hs.live .dead=false:=of_eq_true (eq_self _)
theorem mkParts_nil (l:List Pc):mkParts l []=[]:=by cases l<;>rfl
theorem drop_take_i (l:B) (d n:Nat):(l.take ((d:Int)+(n:Int)).toNat).drop d=(l.drop d).take n:=by
 rw[List.drop_take];congr 1;omega
def ic212:IC:=sR [oP 6 (.box 179 (.t 1)),oP 10 (.mv (.c .nils)),oP 11 (.alloc 179 [s0,.nils]),oP 12 (.mv (.c (.bool false)))] (sR [fD 21 0 6,lD 22 1 21,oP 23 (.lens (.t 22)),mV 13 23] (.seq (sR [mV 24 2,mV 25 13,bN 26 .gtr 24 25,mV 27 26,⟨some 28,some (27,false),.mv (.t 2)⟩,⟨some 29,some (27,false),.mv (.t 3)⟩,⟨some 30,some (27,false),.lens (.t 29)⟩,⟨some 31,some (27,false),.bin .add (.t 28) (.t 30)⟩,⟨some 32,some (27,false),.bin .gtr (.t 31) (.c (.int .i64 40))⟩,oP 33 (.pick (.t 27) (.c (.bool true)) (.t 32))] (.cond (.t 33) (.seq (.drw [0,0,1,7,15] [(0,mV 34 0),(1,lA 35 2 6),(2,mV 10 34),(3,nP (.sto 2 (.t 11) (.t 35))),(4,oP 12 (.mv (.c (.bool false))))]) .ret) .skip)) (.seq (sR [mV 36 2,mV 37 3,oP 38 (.lens (.t 37)),bN 39 .add 36 38,mV 40 13,bN 41 .leq 39 40] (.cond (.t 41) (.seq (.drw [0,0,1,7,15] [(0,mV 42 0),(1,lA 43 2 6),(2,mV 10 42),(3,nP (.sto 2 (.t 11) (.t 43))),(4,oP 12 (.mv (.c (.bool true))))]) .ret) .skip)) (.seq (.drw [0,1,0,0,0,24,60,127,255] [(0,fD 44 0 6),(1,lD 45 1 44),(2,mV 46 3),(3,mV 47 13),(4,mV 48 2),(5,bN 49 .sub 47 48),(6,oP 50 (.sls (.t 46) (some (.t 49)) none)),(7,bN 51 .add 45 50),(8,mV 14 51)]) (sR [lA 52 2 6,oP 53 (.call 220 [.t 52]),mV 15 53] (sR [mV 54 14,oP 55 (.call 190 [.t 54]),mV 16 55] (sR [mV 56 14,oP 57 (.bsl 204 2 []),fD 58 1 6,lD 59 1 58,oP 60 (.app 204 2 (.t 57) (.t 59)),oP 61 (.build [s0,.nils] [(0,(1,.t 56)),(1,(1,.t 60))]),oP 17 (.alloc 179 [s0,.nils]),nP (.sto 2 (.t 17) (.t 61))] (.seq (sR [fD 62 1 6,lD 63 1 62,oP 64 (.len (.t 63)),mV 18 64] (.block 0 (.loop (.seq (sR [mV 65 18,mV 66 16,oP 67 (.len (.t 66)),bN 68 .lss 65 67] (.cond (.t 68) .skip (.exit 0))) (.seq (.block 1 (sR [mV 71 14,mV 72 15,mV 73 15,mV 74 16,mV 75 18,oP 76 (.iad 4 (.t 74) (.t 75)),fD 77 0 76,lD 78 1 77,bN 79 .add 73 78,oP 80 (.sls (.t 71) (some (.t 72)) (some (.t 79))),mV 19 80] (sR [oP 20 (.mv (.c s0))] (.seq (sR [mV 81 4] (.cond (.t 81) (.reg [mV 83 0,mV 84 16,mV 85 18,oP 86 (.iad 4 (.t 84) (.t 85)),lA 87 4 86,mV 88 19,oP 89 (.call 221 [.t 83,.t 87,.t 88]),mV 82 89,eX 90 82 0,eX 91 82 1,mV 0 90,mV 20 91]) (.reg [mV 92 0,mV 93 16,mV 94 18,oP 95 (.iad 4 (.t 93) (.t 94)),lA 96 4 95,mV 97 19,oP 98 (.call 222 [.t 92,.t 96,.t 97]),mV 20 98]))) (.seq (.drw [0,1,0,0,12,28,60,0,252,508,1023,2047,4095] [(0,fD 99 1 17),(1,lD 100 1 99),(2,mV 101 16),(3,mV 102 18),(4,oP 103 (.iad 4 (.t 101) (.t 102))),(5,fD 104 0 103),(6,lD 105 1 104),(7,mV 106 20),(8,oP 107 (.build [i0,s0] [(0,(1,.t 105)),(1,(1,.t 106))])),(9,oP 108 (.bsl 204 2 [.t 107])),(10,oP 109 (.app 204 2 (.t 100) (.t 108))),(11,fD 110 1 17),(12,nP (.sto 1 (.t 110) (.t 109)))]) (.reg [mV 111 15,mV 112 16,mV 113 18,oP 114 (.iad 4 (.t 112) (.t 113)),fD 115 0 114,lD 116 1 115,bN 117 .add 111 116,mV 15 117])))))) (.reg [mV 69 18,oP 70 (.bin .add (.t 69) (.c (.int .i64 1))),mV 18 70])))))) (.seq (.drw [0,0,1,7,15] [(0,mV 118 0),(1,lA 119 2 17),(2,mV 10 118),(3,nP (.sto 2 (.t 11) (.t 119))),(4,oP 12 (.mv (.c (.bool true))))]) .ret)))))))))
theorem dg212:Dg Tryz.prog 212 Tryz.f212 ic212 [(.t 10),(.cell 11 2 true),(.t 12)]:=⟨Tryz.func212,by kernel_rfl,by kernel_rfl⟩
theorem put_F (m:List Pair) (s:Strm) (n:Int) (t:B) (out:Bool) (h:(behind s.inn n t).2=false):put m s n t out=(m,s,false):=by simp[put,h]
theorem put_T (m:List Pair) {s:Strm} (n:Int) (t:B) (out:Bool) (hs:strmOk s=true) (h:¬(n>s.inn.length∨n+t.length>40)) (h2:n+t.length≤s.inn.length):put m s n t out=(m,s,true):=by
 have hb:behind s.inn n t=(s.inn,true):=by
  unfold behind;rw[if_neg (by simpa using h),if_pos h2]
 obtain⟨d1,d2⟩:=strmOk_done hs
 have:(pieces s.inn).drop s.parts.length=[]:=by rw[d2,List.drop_length]
 simp[put,hb,this,turned,mkParts]
theorem turned_false:∀(l:List Pc) (m:List Pair) (s:B),(turned m l s false).1=m
 | [],m,s=>rfl
 | p::ps,m,s=>by simp only[turned];rw[turned_false ps];rfl
theorem c212F (m:List Pair) (s:Strm) (n:Int) (t:B) (h:PutOk m s n t):FnP Tryz.prog G 212 1 [.arr 88 3 (m.map Pair.row)] [.own 0 m.length,.agg [.str s.inn,.sl 2 (s.parts.map Part.row)],.int .i64 n,.str t,.bool false] (putA m s n t false):=by
 refine mP dg212 Tryz.ntmps212 ?_ ?_
 ·refine⟨_,_, ?_,rfl,rfl⟩
  cases hb:(behind s.inn n t).2
  ·rw[put_F _ _ _ _ _ hb]
  ·simp[put,hb,turned_false]
 obtain⟨hm,hs,hn,ht⟩:=h
 obtain⟨hp,hml⟩:=mapOk_ports hm
 obtain⟨s1,s2,s3⟩:=strmOk_B hs
 have keep:∀l mm ok,put m s n t false=(m,s,ok)→getL l 10=.own 0 m.length→getL l 11=.pv 1011 0→getL l 12=.bool ok→getH mm 0=.arr 88 3 (m.map Pair.row)→getH mm 1011=.var 179 [.str s.inn,.sl 2 (s.parts.map Part.row)] →
  retQ [.t 10,.cell 11 2 true,.t 12] 1 (putA m s n t false) .ret ⟨getL l,getH mm⟩:=fun l mm ok h1 h2 h3 h4 h5 h6=>by
  refine retN (.tup [.own 0 m.length,.agg [.str (put m s n t false).2.1.inn,.sl 2 ((put m s n t false).2.1.parts.map Part.row)],.bool (put m s n t false).2.2]) [.arr 88 3 (m.map Pair.row)] [] ?_ ⟨by rw[h1],rfl,rfl⟩ ?_ (by simp[argH]) (by simp only[go_sem])
  ·simp only[go_sem,h1,h2,h3,h4,h6]
  ·simp only[go_sem,h5]
 simp only[ic212,go_sem]
 with_reducible repeat' (first|rw[i64w (by omega)];try simp only[go_sem]|refine br ?_ ?_<;>intro h e<;>(try simp only[e,go_sem])<;>clear e|refine sd ?_<;>try simp only[go_sem]|fail)
 ·exact keep _ _ _ (put_F _ _ _ _ _ (by unfold behind;rw[if_pos (by simp;omega)])) (by simp only[go_sem]) (by simp only[go_sem]) (by simp only[go_sem]) (by simp only[go_sem]) (by simp only[go_sem])
 ·exact keep _ _ _ (put_F _ _ _ _ _ (by unfold behind;rw[if_pos (by simp;omega)])) (by simp only[go_sem]) (by simp only[go_sem]) (by simp only[go_sem]) (by simp only[go_sem]) (by simp only[go_sem])
 ·exact keep _ _ _ (put_T _ _ _ _ hs (by omega) (by omega)) (by simp only[go_sem]) (by simp only[go_sem]) (by simp only[go_sem]) (by simp only[go_sem]) (by simp only[go_sem])
 have hb:behind s.inn n t=(s.inn++t.drop (s.inn.length - n).toNat,true):=by
  unfold behind;rw[if_neg (by simp;omega),if_neg (by omega)]
 have hbp:(behind s.inn n t).2=true:=by rw[hb]
 have hfin:∀mm ts d,PutI m s (behind s.inn n t).1 false mm ts (pieces (behind s.inn n t).1).length d→_:=fun mm ts d h=>put_done hbp h
 have h0:=PutI.init (x:=t.drop (s.inn.length - n).toNat) (out:=false) hp hs
 rw[hb] at hfin
 refine pureG (by simp;omega) ?_
 simp only[List.take_length,go_sem]
 generalize hin:s.inn++t.drop (s.inn.length - n).toNat=inn at *
 have hil:inn.length≤80:=by rw[←hin];simp;omega
 have hpl:=pieces_len inn
 with_reducible repeat' (first|rw[i64w (by omega)];try simp only[go_sem]|refine br ?_ ?_<;>intro h e<;>(try simp only[e,go_sem])<;>clear e|refine sd ?_<;>try simp only[go_sem]|fail)
 refine callR (c220 s ⟨s1,s2,s3⟩) rfl rfl ?_
 simp only[go_sem]
 with_reducible repeat' (first|rw[i64w (by omega)];try simp only[go_sem]|refine br ?_ ?_<;>intro h e<;>(try simp only[e,go_sem])<;>clear e|refine sd ?_<;>try simp only[go_sem]|(first|refine cr (c190 ..) ?_)<;>try simp only[go_sem]|fail)
 refine loopN (fun a:List B×Nat×Nat=>⟨getL [(0,.own 0 m.length),(4,.bool false),(11,.pv 1011 0),(14,.str inn),(15,.int .i64 (a.2.2:Int)),(16,.sl 4 ((pieces inn).map Pc.row)),(17,.pv 1017 0),(18,.int .i64 (a.2.1:Int))],
  getH [(0,.arr 88 3 (m.map Pair.row)),(1011,.var 179 [.str [],.nils]),(1017,.var 179 [.str inn,.own 1060 a.2.1]),(1060,.arr 204 2 ((s.parts++mkParts ((pieces inn).drop s.parts.length) a.1).map Part.row))]⟩) (fun a=>(pieces inn).length - a.2.1)
  (fun a=>PutI m s inn false m a.1 a.2.1 a.2.2) ([],s.parts.length,doneP s.parts) ?_ h0 ?_
 ·refine leN [] (by simp only[go_sem];first|done|rfl) ?_ (by simp[getN]) (by simp only[go_sem])
  simp only[go_sem];simp[mkParts_nil]
 intro⟨ts,i,d⟩ hI
 simp only at hI
 simp only[go_sem]
 have hi:=hI.hi
 by_cases h:(i:Int)<(pieces inn).length
 ·obtain⟨hst1,hst2⟩:=hI.step (by omega)
  have hml2:=mkParts_len2 ((pieces inn).drop s.parts.length) ts (by have:=hI.ht;rw[List.length_drop];omega)
  have hml3:(s.parts++mkParts ((pieces inn).drop s.parts.length) ts).length=i:=by rw[List.length_append,hml2];exact hI.ht
  have hma:=mkParts_app ((pieces inn).drop s.parts.length) ts (pieceIn m ((pieces inn).getD i default) ((inn.drop d).take ((pieces inn).getD i default).size)) (by have:=hI.ht;rw[List.length_drop];omega)
  have hgq:((pieces inn).drop s.parts.length).getD ts.length default=(pieces inn).getD i default:=by
   simp only[List.getD_eq_getElem?_getD,List.getElem?_drop,hI.ht]
  rw[hgq] at hma
  have hht:=hI.ht
  simp only[turn,cond_false] at hst2
  obtain⟨q,hq⟩:∃q,(pieces inn).getD i default=q:=⟨_,rfl⟩
  rw[hq] at hst1 hst2 hma
  simp only[eq_true h,go_sem]
  refine effG (by omega) ?_
  simp only[go_sem,hq]
  with_reducible repeat' (first|rw[i64w (by omega)];try simp only[go_sem,hq]|refine br ?_ ?_<;>intro h e<;>(try simp only[e,go_sem,hq])<;>clear e|refine sd ?_<;>try simp only[go_sem,hq]|fail)
  rw[drop_take_i]
  refine callF (c222 m q.size q.named q.e.a q.e.p ((inn.drop d).take q.size) hm) [0] false (by simp only[go_sem];first|done|simp[E.row,Pc.row,Pair.row,Part.row,Flw.row,Pk.row,Conv.row]) (by simp only[List.mem_singleton];rintro c rfl;rfl) rfl (.inr rfl) ?_
  simp only[go_sem,hq]
  with_reducible repeat' (first|rw[i64w (by omega)];try simp only[go_sem,hq]|refine br ?_ ?_<;>intro h e<;>(try simp only[e,go_sem,hq])<;>clear e|refine sd ?_<;>try simp only[go_sem,hq]|fail)
  refine⟨(ts++[pieceIn m q ((inn.drop d).take q.size)],i+1,d+q.size),by simp only;omega,hst2,leN [(1060,1109)] ?_ ?_ (by simp[getN]) (by simp only[go_sem])⟩
  ·simp only[go_sem];simp
  ·simp only[go_sem,hma];simp[Part.row]
 ·simp only[eq_false h,go_sem]
  have:i=(pieces inn).length:=by omega
  subst this
  with_reducible repeat' (first|refine br ?_ ?_<;>intro h e<;>(try simp only[e,go_sem])<;>clear e|rw[i64w (by omega)]|refine sd ?_<;>try simp only[go_sem]|fail)
  have hfin:=hfin m ts d hI
  refine retN (.tup [.own 0 m.length,.agg [.str inn,.sl 2 ((s.parts++mkParts ((pieces inn).drop s.parts.length) ts).map Part.row)],.bool true]) [.arr 88 3 (m.map Pair.row)] [] ?_ ⟨by rw[hfin],by rw[hfin],rfl⟩ ?_ (by simp[argH]) (by simp only[go_sem])
  ·simp only[go_sem]
   have:=hI.ht
   have:=mkParts_len2 ((pieces inn).drop s.parts.length) ts (by rw[List.length_drop];omega)
   first|done|(simp;omega)
  ·simp only[go_sem]
def putAB (m:List Pair) (s:Strm) (n:Int) (t:B) (out:Bool) (r:V) (o:List Hs):Prop:=putA m s n t out r o∨putB m s n t out r o
theorem c212T (m:List Pair) (s:Strm) (n:Int) (t:B) (h:PutOk m s n t):FnP Tryz.prog G 212 1 [.arr 88 3 (m.map Pair.row)] [.own 0 m.length,.agg [.str s.inn,.sl 2 (s.parts.map Part.row)],.int .i64 n,.str t,.bool true] (putAB m s n t true):=by
 refine mP dg212 Tryz.ntmps212 ?_ ?_
 ·cases hb:(behind s.inn n t).2
  ·exact⟨_,_,.inl ⟨by rw[put_F _ _ _ _ _ hb],rfl,rfl⟩⟩
  ·exact⟨_,_,.inr ⟨by simp[put,hb],rfl,rfl⟩⟩
 obtain⟨hm,hs,hn,ht⟩:=h
 obtain⟨hp,hml⟩:=mapOk_ports hm
 obtain⟨s1,s2,s3⟩:=strmOk_B hs
 have keep:∀l mm ok,put m s n t true=(m,s,ok)→getL l 10=.own 0 m.length→getL l 11=.pv 1011 0→getL l 12=.bool ok→getH mm 0=.arr 88 3 (m.map Pair.row)→getH mm 1011=.var 179 [.str s.inn,.sl 2 (s.parts.map Part.row)] →
  retQ [.t 10,.cell 11 2 true,.t 12] 1 (putAB m s n t true) .ret ⟨getL l,getH mm⟩:=fun l mm ok h1 h2 h3 h4 h5 h6=>by
  refine retN (.tup [.own 0 m.length,.agg [.str (put m s n t true).2.1.inn,.sl 2 ((put m s n t true).2.1.parts.map Part.row)],.bool (put m s n t true).2.2]) [.arr 88 3 (m.map Pair.row)] [] ?_ (.inl ⟨by rw[h1],rfl,rfl⟩) ?_ (by simp[argH]) (by simp only[go_sem])
  ·simp only[go_sem,h1,h2,h3,h4,h6]
  ·simp only[go_sem,h5]
 simp only[ic212,go_sem]
 with_reducible repeat' (first|rw[i64w (by omega)];try simp only[go_sem]|refine br ?_ ?_<;>intro h e<;>(try simp only[e,go_sem])<;>clear e|refine sd ?_<;>try simp only[go_sem]|fail)
 ·exact keep _ _ _ (put_F _ _ _ _ _ (by unfold behind;rw[if_pos (by simp;omega)])) (by simp only[go_sem]) (by simp only[go_sem]) (by simp only[go_sem]) (by simp only[go_sem]) (by simp only[go_sem])
 ·exact keep _ _ _ (put_F _ _ _ _ _ (by unfold behind;rw[if_pos (by simp;omega)])) (by simp only[go_sem]) (by simp only[go_sem]) (by simp only[go_sem]) (by simp only[go_sem]) (by simp only[go_sem])
 ·exact keep _ _ _ (put_T _ _ _ _ hs (by omega) (by omega)) (by simp only[go_sem]) (by simp only[go_sem]) (by simp only[go_sem]) (by simp only[go_sem]) (by simp only[go_sem])
 have hb:behind s.inn n t=(s.inn++t.drop (s.inn.length - n).toNat,true):=by
  unfold behind;rw[if_neg (by simp;omega),if_neg (by omega)]
 have hbp:(behind s.inn n t).2=true:=by rw[hb]
 have hfin:∀mm ts d,PutI m s (behind s.inn n t).1 true mm ts (pieces (behind s.inn n t).1).length d→_:=fun mm ts d h=>put_done hbp h
 have h0:=PutI.init (x:=t.drop (s.inn.length - n).toNat) (out:=true) hp hs
 rw[hb] at hfin
 refine pureG (by simp;omega) ?_
 simp only[List.take_length,go_sem]
 generalize hin:s.inn++t.drop (s.inn.length - n).toNat=inn at *
 have hil:inn.length≤80:=by rw[←hin];simp;omega
 have hpl:=pieces_len inn
 with_reducible repeat' (first|rw[i64w (by omega)];try simp only[go_sem]|refine br ?_ ?_<;>intro h e<;>(try simp only[e,go_sem])<;>clear e|refine sd ?_<;>try simp only[go_sem]|fail)
 refine callR (c220 s ⟨s1,s2,s3⟩) rfl rfl ?_
 simp only[go_sem]
 with_reducible repeat' (first|rw[i64w (by omega)];try simp only[go_sem]|refine br ?_ ?_<;>intro h e<;>(try simp only[e,go_sem])<;>clear e|refine sd ?_<;>try simp only[go_sem]|(first|refine cr (c190 ..) ?_)<;>try simp only[go_sem]|fail)
 refine loopN (fun a:List Pair×List B×Nat×Nat=>⟨getL [(0,.own 5000 a.1.length),(4,.bool true),(11,.pv 1011 0),(14,.str inn),(15,.int .i64 (a.2.2.2:Int)),(16,.sl 4 ((pieces inn).map Pc.row)),(17,.pv 1017 0),(18,.int .i64 (a.2.2.1:Int))],
  getH [(0,.dead),(5000,.arr 88 3 (a.1.map Pair.row)),(1011,.var 179 [.str [],.nils]),(1017,.var 179 [.str inn,.own 1060 a.2.2.1]),(1060,.arr 204 2 ((s.parts++mkParts ((pieces inn).drop s.parts.length) a.2.1).map Part.row))]⟩) (fun a=>(pieces inn).length - a.2.2.1)
  (fun a=>PutI m s inn true a.1 a.2.1 a.2.2.1 a.2.2.2) (m,[],s.parts.length,doneP s.parts) ?_ h0 ?_
 ·refine leN' [(5000,0)] (by simp only[go_sem];first|done|rfl) ?_ (by simp[liveN,getN,live_arr,live_var,live_dead]) (by simp only[go_sem])
  simp only[go_sem];simp[mkParts_nil]
 intro⟨mm,ts,i,d⟩ hI
 simp only at hI
 simp only[go_sem]
 have hi:=hI.hi
 by_cases h:(i:Int)<(pieces inn).length
 ·obtain⟨hst1,hst2⟩:=hI.step (by omega)
  have hml2:=mkParts_len2 ((pieces inn).drop s.parts.length) ts (by have:=hI.ht;rw[List.length_drop];omega)
  have hml3:(s.parts++mkParts ((pieces inn).drop s.parts.length) ts).length=i:=by rw[List.length_append,hml2];exact hI.ht
  have hma:=mkParts_app ((pieces inn).drop s.parts.length) ts (pieceOut mm ((pieces inn).getD i default) ((inn.drop d).take ((pieces inn).getD i default).size)).2 (by have:=hI.ht;rw[List.length_drop];omega)
  have hgq:((pieces inn).drop s.parts.length).getD ts.length default=(pieces inn).getD i default:=by
   simp only[List.getD_eq_getElem?_getD,List.getElem?_drop,hI.ht]
  rw[hgq] at hma
  have hht:=hI.ht
  simp only[turn,cond_true] at hst2
  have hmml:=hI.ml
  obtain⟨q,hq⟩:∃q,(pieces inn).getD i default=q:=⟨_,rfl⟩
  rw[hq] at hst1 hst2 hma
  simp only[eq_true h,go_sem]
  refine effG (by omega) ?_
  simp only[go_sem,hq]
  with_reducible repeat' (first|rw[i64w (by omega)];try simp only[go_sem,hq]|refine br ?_ ?_<;>intro h e<;>(try simp only[e,go_sem,hq])<;>clear e|refine sd ?_<;>try simp only[go_sem,hq]|fail)
  rw[drop_take_i]
  refine callU (c221 mm q.size q.named q.e.a q.e.p ((inn.drop d).take q.size) hI.hp (by omega)) [5000] [] 89 1 (by simp only[go_sem];first|done|simp) (by simp only[go_sem];first|done|simp) (by simp) (by simp) (by rintro _ _ ⟨rfl,rfl⟩;simp) (by intro i hi;obtain rfl:i=0:=(by omega);simp only[go_sem]) ?_
  rintro _ _ ⟨rfl,rfl⟩
  simp only[go_sem,hq]
  with_reducible repeat' (first|rw[i64w (by omega)];try simp only[go_sem,hq]|refine br ?_ ?_<;>intro h e<;>(try simp only[e,go_sem,hq])<;>clear e|refine sd ?_<;>try simp only[go_sem,hq]|fail)
  refine⟨((pieceOut mm q ((inn.drop d).take q.size)).1,ts++[(pieceOut mm q ((inn.drop d).take q.size)).2],i+1,d+q.size),by simp only;omega,hst2,leN [(5000,108900),(1060,1109)] ?_ ?_ (by simp[getN]) (by simp only[go_sem])⟩
  ·simp only[go_sem];simp
  ·simp only[go_sem,hma];simp[Part.row]
 ·simp only[eq_false h,go_sem]
  have:i=(pieces inn).length:=by omega
  subst this
  with_reducible repeat' (first|refine br ?_ ?_<;>intro h e<;>(try simp only[e,go_sem])<;>clear e|rw[i64w (by omega)]|refine sd ?_<;>try simp only[go_sem]|fail)
  have hfin:=hfin mm ts d hI
  refine retN (.tup [.own 1 mm.length,.agg [.str inn,.sl 2 ((s.parts++mkParts ((pieces inn).drop s.parts.length) ts).map Part.row)],.bool true]) [.dead,.arr 88 3 (mm.map Pair.row)] [(1,5000)] ?_ (.inr ⟨by rw[hfin],by rw[hfin],by rw[hfin]⟩) ?_ (by simp[argH,getN]) (by simp only[go_sem])
  ·simp only[go_sem]
   have:=hI.ht
   have:=mkParts_len2 ((pieces inn).drop s.parts.length) ts (by rw[List.length_drop];omega)
   first|done|(simp;omega)
  ·simp only[go_sem]
def ic213:IC:=sR [oP 3 (.box 179 (.t 0)),oP 4 (.box 179 (.t 1)),oP 5 (.box 70 (.t 2)),oP 6 (.alloc 70 [i0,i0,i0,i0,i0,i0,s0]),oP 7 (.mv (.c (.bool false)))] (sR [lA 10 2 4,fD 11 5 5,lD 12 1 11,oP 13 (.call 223 [.t 10,.t 12]),mV 8 13] (sR [lA 14 2 4,fD 15 5 5,lD 16 1 15,fD 17 6 5,lD 18 1 17,oP 19 (.lens (.t 18)),bN 20 .add 16 19,fD 21 0 4,lD 22 1 21,oP 23 (.lens (.t 22)),oP 24 (.mn (.t 20) (.t 23)),oP 25 (.call 223 [.t 14,.t 24]),mV 9 25] (.seq (sR [fD 26 0 4,lD 27 1 26,oP 28 (.lens (.t 27)),fD 29 0 3,lD 30 1 29,oP 31 (.lens (.t 30)),bN 32 .gtr 28 31] (.cond (.t 32) (.reg [lA 33 2 4,oP 34 (.call 210 [.t 33]),oP 35 (.lens (.t 34)),mV 9 35]) .skip)) (.seq (sR [mV 36 8,mV 37 9,bN 38 .geq 36 37] (.cond (.t 38) (sR [oP 39 (.build [i0,i0,i0,i0,i0,i0,s0] []),nP (.sto 7 (.t 6) (.t 39)),oP 7 (.mv (.c (.bool false)))] .ret) .skip)) (sR [mV 40 8,fD 41 5 5,nP (.sto 1 (.t 41) (.t 40))] (sR [lA 42 2 4,oP 43 (.call 210 [.t 42]),mV 44 8,mV 45 9,oP 46 (.sls (.t 43) (some (.t 44)) (some (.t 45))),fD 47 6 5,nP (.sto 1 (.t 47) (.t 46))] (.seq (.drw [0,0,2,6,14,1,63] [(0,lA 48 7 5),(1,fD 49 6 5),(2,lD 50 1 49),(3,oP 51 (.lens (.t 50))),(4,oP 52 (.bin .leq (.t 51) (.c (.int .i64 40)))),(5,nP (.sto 7 (.t 6) (.t 48))),(6,mV 7 52)]) .ret)))))))
theorem dg213:Dg Tryz.prog 213 Tryz.f213 ic213 [(.cell 6 7 true),(.t 7)]:=⟨Tryz.func213,by kernel_rfl,by kernel_rfl⟩
theorem c213 (was is:Strm) (p:Pk) (h:StrB is) (hw:was.inn.length≤2000000) (hp : -10000≤p.at_∧p.at_≤9000) (ht:p.text.length≤1000) :
 FnR Tryz.prog G 213 [.agg [.str was.inn,.sl 2 (was.parts.map Part.row)],.agg [.str is.inn,.sl 2 (is.parts.map Part.row)],.agg [.int .i64 p.kind,.int .i64 p.frm.a,.int .i64 p.frm.p,.int .i64 p.to.a,.int .i64 p.to.p,.int .i64 p.at_,.str p.text]]
  (.tup [.agg (Pk.row (sendR was is p).1),.bool (sendR was is p).2]):=by
 refine mF dg213 Tryz.ntmps213 ?_
 have hso:=sOut_len h
 have h1:=forP_le (l:=is.parts) p.at_
 have h2:=toR_le was is p
 have hil:=h.1
 have f1:=c223 is p.at_ h (by omega)
 have f2:=c223 is (min (p.at_+p.text.length) is.inn.length) h (by omega)
 have f3:=c210 is h
 have e1:∀a b,forP is.parts p.at_=a→toR was is p=b→sendR was is p=if a≥b then(.zero,false)
  else({ p with at_:=a,text:=((sOut is).take b.toNat).drop a.toNat },decide ((((sOut is).take b.toNat).drop a.toNat).length≤40)):=fun a b ha hb=>by subst ha;subst hb;rfl
 simp only[ic213,go_sem]
 generalize hfr:forP is.parts p.at_=fr at *
 by_cases hl:was.inn.length<is.inn.length
 ·have hto:toR was is p=(sOut is).length:=by simp[toR,hl]
  have e1:=e1 _ _ rfl hto
  rw[hto] at h2
  generalize hfr2:forP is.parts (min (p.at_+p.text.length) is.inn.length)=fr2 at *
  with_reducible repeat' (first|refine br ?_ ?_<;>intro h e<;>(try simp only[e,go_sem])<;>clear e|rw[i64w (by omega)]|refine sd ?_<;>try simp only[go_sem]|(first|refine cr (f1 ..) ?_|refine cr (f2 ..) ?_|refine cr (f3 ..) ?_)<;>try simp only[go_sem]|fail)
  all_goals first
   | (exfalso;omega)
   | (rw[e1,if_pos (by omega)];simp[Pk.zero,E.zero];done)
   | (rw[e1,if_neg (by omega)];simp;done)
   | (rw[e1,if_neg (by omega)];simp;omega)
 ·have hto:toR was is p=forP is.parts (min (p.at_+p.text.length) is.inn.length):=by simp[toR,hl]
  have e1:=e1 _ _ rfl hto
  rw[hto] at h2
  generalize hfr2:forP is.parts (min (p.at_+p.text.length) is.inn.length)=fr2 at *
  with_reducible repeat' (first|refine br ?_ ?_<;>intro h e<;>(try simp only[e,go_sem])<;>clear e|rw[i64w (by omega)]|refine sd ?_<;>try simp only[go_sem]|(first|refine cr (f1 ..) ?_|refine cr (f2 ..) ?_|refine cr (f3 ..) ?_)<;>try simp only[go_sem]|fail)
  all_goals first
   | (exfalso;omega)
   | (rw[e1,if_pos (by omega)];simp[Pk.zero,E.zero];done)
   | (rw[e1,if_neg (by omega)];simp;done)
   | (rw[e1,if_neg (by omega)];simp;omega)
def z0A (c:Nat):Hs→V
 | .arr _ sz _=>.sl sz []
 | _=>.own c 0
theorem z0V_own (h:Nat→Hs) (c:Nat):z0V h (.own c 0)=z0A c (h c):=by cases hh:h c<;>simp[z0V,z0A,hh]
theorem z0A_arr (c ty sz:Nat) (rows:List (List V)):z0A c (.arr ty sz rows)=.sl sz []:=of_eq_true (eq_self _)
theorem z0V_int (h:Nat→Hs) (k n):z0V h (.int k n)=.int k n:=of_eq_true (eq_self _)
theorem z0V_str (h:Nat→Hs) (s):z0V h (.str s)=.str s:=of_eq_true (eq_self _)
theorem z0N_own (c:Nat):z0N (.own c 0)=[c]:=of_eq_true (eq_self _)
theorem z0N_int (k n):z0N (.int k n)=[]:=of_eq_true (eq_self _)
theorem z0N_str (s):z0N (.str s)=[]:=of_eq_true (eq_self _)
theorem ixI_some {o:Option Nat} (h:0≤ixI o):∃k,o=some k:=by
 cases o with
 | none=>simp[ixI] at h
 | some k=>exact⟨k,rfl⟩
theorem ixI_none {o:Option Nat} (h:ixI o<0):o=none:=ixI_lt.1 h
def openA (d:Door) (i o:E) (r:V) (out:List Hs):Prop :=
 r=.tup [.agg [.own 0 (openR d i o).1.map.length,.own 1 (openR d i o).1.flows.length],.int .i64 (openR d i o).2.1,.bool (openR d i o).2.2]∧out=[.arr 88 3 ((openR d i o).1.map.map Pair.row),.arr 181 8 ((openR d i o).1.flows.map Flw.row)]
def ic208:IC:=sR [oP 3 (.box 38 (.t 0)),oP 4 (.box 45 (.t 1)),oP 5 (.box 45 (.t 2)),oP 6 (.alloc 38 [.nils,.nils]),oP 7 (.mv (.c i0)),oP 8 (.mv (.c (.bool false)))] (sR [fD 13 1 3,lD 14 1 13,lA 15 2 4,lA 16 2 5,oP 17 (.call 172 [.t 14,.t 15,.t 16]),mV 9 17] (.seq (sR [mV 18 9,oP 19 (.bin .geq (.t 18) (.c i0))] (.cond (.t 19) (sR [lA 20 2 3,mV 21 9,nP (.sto 2 (.t 6) (.t 20)),mV 7 21,oP 8 (.mv (.c (.bool true)))] .ret) .skip)) (sR [fD 23 0 3,lD 24 1 23,lA 25 2 4,oP 26 (.call 209 [.t 24,.t 25]),mV 22 26,eX 27 22 0,eX 28 22 1,eX 29 22 2,mV 10 27,mV 11 28,mV 12 29] (.seq (sR [mV 30 12,oP 31 (.un .not (.t 30)),mV 32 31,⟨some 33,some (32,false),.fad 1 (.t 3)⟩,⟨some 34,some (32,false),.ld 1 false (.t 33)⟩,⟨some 35,some (32,false),.len (.t 34)⟩,⟨some 36,some (32,false),.bin .geq (.t 35) (.c (.int .i64 4))⟩,oP 37 (.pick (.t 32) (.c (.bool true)) (.t 36))] (.cond (.t 37) (sR [lA 38 2 3,nP (.sto 2 (.t 6) (.t 38)),oP 7 (.mv (.c i0)),oP 8 (.mv (.c (.bool false)))] .ret) .skip)) (sR [mV 39 10,fD 40 0 3,nP (.sto 1 (.t 40) (.t 39))] (sR [fD 41 1 3,lD 42 1 41,lA 43 2 4,lA 44 2 5,oP 45 (.bsl 204 2 []),oP 46 (.build [s0,.nils] [(1,(1,.t 45))]),oP 47 (.bsl 204 2 []),oP 48 (.build [s0,.nils] [(1,(1,.t 47))]),oP 49 (.build [i0,i0,i0,i0,s0,.nils,s0,.nils] [(0,(2,.t 43)),(2,(2,.t 44)),(4,(2,.t 46)),(6,(2,.t 48))]),oP 50 (.bsl 181 8 [.t 49]),oP 51 (.app 181 8 (.t 42) (.t 50)),fD 52 1 3,nP (.sto 1 (.t 52) (.t 51))] (.seq (.drw [0,0,2,6,14,1,63,127] [(0,lA 53 2 3),(1,fD 54 1 3),(2,lD 55 1 54),(3,oP 56 (.len (.t 55))),(4,oP 57 (.bin .sub (.t 56) (.c (.int .i64 1)))),(5,nP (.sto 2 (.t 6) (.t 53))),(6,mV 7 57),(7,oP 8 (.mv (.c (.bool true))))]) .ret)))))))
theorem dg208:Dg Tryz.prog 208 Tryz.f208 ic208 [(.cell 6 2 true),(.t 7),(.t 8)]:=⟨Tryz.func208,by kernel_rfl,by kernel_rfl⟩
theorem c208 (d:Door) (i o:E) (hm:mapOk d.map=true) (hf:d.flows.length≤3):FnP Tryz.prog G 208 0 [.arr 88 3 (d.map.map Pair.row),.arr 181 8 (d.flows.map Flw.row)]
 [.agg [.own 0 d.map.length,.own 1 d.flows.length],.agg [.int .i64 i.a,.int .i64 i.p],.agg [.int .i64 o.a,.int .i64 o.p]] (openA d i o):=by
 refine mP dg208 Tryz.ntmps208 ⟨_,_,rfl,rfl⟩ ?_
 obtain⟨hp,hml⟩:=mapOk_ports hm
 have keep:∀l mm k ok,openR d i o=(d,k,ok)→getL l 6=.pv 1006 0→getL l 7=.int .i64 (k:Nat)→getL l 8=.bool ok→getH mm 1006=.var 38 [.own 0 d.map.length,.own 1 d.flows.length]→getH mm 0=.arr 88 3 (d.map.map Pair.row)→getH mm 1=.arr 181 8 (d.flows.map Flw.row) →
  retQ [.cell 6 2 true,.t 7,.t 8] 0 (openA d i o) .ret ⟨getL l,getH mm⟩:=fun l mm k ok h1 h2 h3 h4 h5 h6 h7=>by
  refine retN (.tup [.agg [.own 0 d.map.length,.own 1 d.flows.length],.int .i64 (k:Nat),.bool ok]) [.arr 88 3 (d.map.map Pair.row),.arr 181 8 (d.flows.map Flw.row)] [] ?_ ⟨by rw[h1],by rw[h1]⟩ ?_ (by simp[argH,getN]) (by simp only[go_sem])
  ·simp only[go_sem,h2,h3,h4,h5]
  ·simp only[go_sem,h6,h7]
 simp only[ic208,go_sem]
 refine callF (c172 d.flows i o (by omega)) [1] false (by simp only[go_sem];first|done|simp[E.row,Pc.row,Pair.row,Part.row,Flw.row,Pk.row,Conv.row]) (by simp only[List.mem_singleton];rintro c rfl;rfl) rfl (.inr rfl) ?_
 simp only[go_sem]
 with_reducible repeat' (first|refine br ?_ ?_<;>intro h e<;>(try simp only[e,go_sem])<;>clear e|rw[i64w (by omega)]|refine sd ?_<;>try simp only[go_sem]|fail)
 ·obtain⟨k,hk⟩:=ixI_some h
  rw[hk]
  exact keep _ _ k true (openF_has hk) (by simp only[go_sem]) (by simp only[go_sem];rfl) (by simp only[go_sem]) (by simp only[go_sem]) (by simp only[go_sem]) (by simp only[go_sem])
 have hno:=ixI_none (by omega:ixI (flowIx d.flows i o)<0)
 refine callN (c209 d.map i.a i.p hp (by omega)) [0] [] true 26 2 (by simp only[go_sem];first|done|simp) (by simp only[go_sem];first|done|simp) (by simp) (by simp) (by simp) ?_ ?_ ?_
 ·rintro res out (⟨_,rfl,rfl⟩|⟨rfl,rfl,_⟩)
  ·exact⟨by simp,by simp,.inl rfl,fun i hi=>by obtain rfl:i=0:=(by omega);simp[chH,stepOk]⟩
  ·exact⟨by simp,by simp,.inl rfl,fun i hi=>by obtain rfl:i=0:=(by omega);simp[chH,stepOk]⟩
 ·intro i hi
  have:i=0∨i=1:=by omega
  rcases this with rfl|rfl<;>simp only[go_sem]
 ·rintro res out (⟨h1,rfl,rfl⟩|⟨rfl,rfl,h3,_⟩)
  ·simp only[go_sem]
   cases hok:(mOut d.map i).2.2<;>simp only[go_sem]
   ·with_reducible repeat' (first|refine br ?_ ?_<;>intro h e<;>(try simp only[e,go_sem])<;>clear e|rw[i64w (by omega)]|refine sd ?_<;>try simp only[go_sem]|fail)
    exact keep _ _ 0 false (openF_no hno hok) (by simp only[go_sem]) (by simp only[go_sem];first|done|rfl) (by simp only[go_sem]) (by simp only[go_sem]) (by simp only[go_sem]) (by simp only[go_sem])
   ·have hn:=openF_new hno hok (by omega)
    with_reducible repeat' (first|refine br ?_ ?_<;>intro h e<;>(try simp only[e,go_sem])<;>clear e|rw[i64w (by omega)]|refine sd ?_<;>try simp only[go_sem]|fail)
    ·omega
    simp only[Bool.true_and,Bool.false_and,z0V_own,z0A_arr,z0V_int,z0V_str,z0N_own,z0N_int,z0N_str,List.flatMap_cons,List.flatMap_nil,go_sem]
    with_reducible repeat' (first|refine br ?_ ?_<;>intro h e<;>(try simp only[e,go_sem])<;>clear e|rw[i64w (by omega)]|refine sd ?_<;>try simp only[go_sem]|fail)
    refine retN (.tup [.agg [.own 0 d.map.length,.own 1 (d.flows.length+1)],.int .i64 (d.flows.length:Nat),.bool true]) [.arr 88 3 (d.map.map Pair.row),.arr 181 8 ((d.flows++[Flw.mk i o .zero .zero]).map Flw.row)] [(1,1051)] ?_ ⟨by rw[hn,h1];simp,by rw[hn,h1]⟩ ?_ (by simp[argH,getN]) (by simp only[go_sem])
    ·simp only[go_sem];first|done|omega
    ·simp only[go_sem];simp[Flw.row,Strm.zero]
  ·have hn:=openF_new hno h3 (by omega)
   simp only[go_sem,h3]
   with_reducible repeat' (first|refine br ?_ ?_<;>intro h e<;>(try simp only[e,go_sem])<;>clear e|rw[i64w (by omega)]|refine sd ?_<;>try simp only[go_sem]|fail)
   ·omega
   simp only[Bool.true_and,Bool.false_and,z0V_own,z0A_arr,z0V_int,z0V_str,z0N_own,z0N_int,z0N_str,List.flatMap_cons,List.flatMap_nil,go_sem]
   with_reducible repeat' (first|refine br ?_ ?_<;>intro h e<;>(try simp only[e,go_sem])<;>clear e|rw[i64w (by omega)]|refine sd ?_<;>try simp only[go_sem]|fail)
   refine retN (.tup [.agg [.own 0 (mOut d.map i).1.length,.own 1 (d.flows.length+1)],.int .i64 (d.flows.length:Nat),.bool true]) [.arr 88 3 ((mOut d.map i).1.map Pair.row),.arr 181 8 ((d.flows++[Flw.mk i o .zero .zero]).map Flw.row)] [(0,102601),(1,1051)] ?_ ⟨by rw[hn];simp,by rw[hn]⟩ ?_ (by simp[argH,getN]) (by simp only[go_sem])
   ·simp only[go_sem];first|done|omega
   ·simp only[go_sem];simp[Flw.row,Strm.zero]
def doorA (x:Door×Option Pk) (r:V) (out:List Hs):Prop :=
 r=.tup [.agg [.own 0 x.1.map.length,.own 1 x.1.flows.length],.agg (Pk.row (x.2.getD .zero)),.bool x.2.isSome]∧out=[.arr 88 3 (x.1.map.map Pair.row),.arr 181 8 (x.1.flows.map Flw.row)]
theorem doorRet {x:Door×Option Pk} {l:List (Nat×V)} {mm:List (Nat×Hs)} {d:Door} {q:Option Pk} (n0 n1:Nat) (hx:x=(d,q)) (h4:getL l 4=.pv 1004 0) (h5:getL l 5=.pv 1005 0) (h6:getL l 6=.bool q.isSome)
 (m4:getH mm 1004=.var 38 [.own n0 d.map.length,.own n1 d.flows.length]) (m5:getH mm 1005=.var 70 (Pk.row (q.getD .zero))) (m0:getH mm n0=.arr 88 3 (d.map.map Pair.row)) (m1:getH mm n1=.arr 181 8 (d.flows.map Flw.row)) (hne:n0≠n1) :
 retQ [.cell 4 2 true,.cell 5 7 true,.t 6] 0 (doorA x) .ret ⟨getL l,getH mm⟩:=by
 subst hx
 refine retN (.tup [.agg [.own 0 d.map.length,.own 1 d.flows.length],.agg (Pk.row (q.getD .zero)),.bool q.isSome]) [.arr 88 3 (d.map.map Pair.row),.arr 181 8 (d.flows.map Flw.row)] [(0,n0),(1,n1)] ?_ ⟨rfl,rfl⟩ ?_ (by simp[argH,getN,hne]) (by simp only[go_sem])
 ·simp only[go_sem,h4,h5,h6,m4,m5]
 ·simp only[go_sem,m0,m1]
def ic191:IC:=sR [oP 2 (.box 38 (.t 0)),oP 3 (.box 70 (.t 1)),oP 4 (.alloc 38 [.nils,.nils]),oP 5 (.alloc 70 [i0,i0,i0,i0,i0,i0,s0]),oP 6 (.mv (.c (.bool false)))] (sR [lA 18 2 2,fD 19 1 3,lA 20 2 19,fD 21 3 3,lA 22 2 21,oP 23 (.call 208 [.t 18,.t 20,.t 22]),mV 17 23,eX 24 17 0,eX 25 17 1,eX 26 17 2,nP (.sto 2 (.t 2) (.t 24)),mV 7 25,mV 8 26] (.seq (sR [mV 27 8,oP 28 (.un .not (.t 27))] (.cond (.t 28) (sR [lA 29 2 2,oP 30 (.build [i0,i0,i0,i0,i0,i0,s0] []),nP (.sto 2 (.t 4) (.t 29)),nP (.sto 7 (.t 5) (.t 30)),oP 6 (.mv (.c (.bool false)))] .ret) .skip)) (sR [fD 32 0 2,lD 33 1 32,fD 34 1 3,lA 35 2 34,oP 36 (.call 209 [.t 33,.t 35]),mV 31 36,eX 37 31 0,eX 38 31 1,eX 39 31 2,mV 9 37,mV 10 38,mV 11 39] (sR [mV 40 10,oP 41 (.build [i0,i0] [(0,(1,.c (.int .i64 9))),(1,(1,.t 40))]),oP 12 (.alloc 45 [i0,i0]),nP (.sto 2 (.t 12) (.t 41))] (sR [fD 42 1 2,lD 43 1 42,mV 44 7,oP 45 (.iad 8 (.t 43) (.t 44)),lA 46 8 45,oP 13 (.alloc 181 [i0,i0,i0,i0,s0,.nils,s0,.nils]),nP (.sto 8 (.t 13) (.t 46))] (.seq (sR [fD 47 0 3,lD 48 1 47,oP 49 (.bin .eql (.t 48) (.c (.int .i64 2)))] (.cond (.t 49) (.seq (.seq (.drw [0,1,0,4,12,28,63] [(0,fD 50 5 3),(1,lD 51 1 50),(2,fD 52 6 13),(3,lA 53 2 52),(4,oP 54 (.call 210 [.t 53])),(5,oP 55 (.lens (.t 54))),(6,bN 56 .gtr 51 55)]) (.cond (.t 56) (sR [lA 57 2 2,oP 58 (.build [i0,i0,i0,i0,i0,i0,s0] []),nP (.sto 2 (.t 4) (.t 57)),nP (.sto 7 (.t 5) (.t 58)),oP 6 (.mv (.c (.bool false)))] .ret) .skip)) (.seq (.drw [0,0,0,4,0,16,0,64,240,510,497,2047,4095] [(0,lA 59 2 2),(1,lA 60 2 12),(2,fD 61 3 3),(3,lA 62 2 61),(4,fD 63 6 13),(5,lA 64 2 63),(6,fD 65 5 3),(7,lD 66 1 65),(8,oP 67 (.call 211 [.t 64,.t 66])),(9,oP 68 (.build [i0,i0,i0,i0,i0,i0,s0] [(0,(1,.c (.int .i64 2))),(1,(2,.t 60)),(3,(2,.t 62)),(5,(1,.t 67))])),(10,nP (.sto 2 (.t 4) (.t 59))),(11,nP (.sto 7 (.t 5) (.t 68))),(12,oP 6 (.mv (.c (.bool true))))]) .ret)) .skip)) (sR [fD 70 0 2,lD 71 1 70,fD 72 4 13,lA 73 2 72,fD 74 5 3,lD 75 1 74,fD 76 6 3,lD 77 1 76,oP 78 (.call 212 [.t 71,.t 73,.t 75,.t 77,.c (.bool true)]),mV 69 78,eX 79 69 0,eX 80 69 1,eX 81 69 2,oP 15 (.alloc 179 [s0,.nils]),mV 14 79,nP (.sto 2 (.t 15) (.t 80)),mV 8 81] (.seq (sR [mV 82 8,oP 83 (.un .not (.t 82))] (.cond (.t 83) (sR [lA 84 2 2,oP 85 (.build [i0,i0,i0,i0,i0,i0,s0] []),nP (.sto 2 (.t 4) (.t 84)),nP (.sto 7 (.t 5) (.t 85)),oP 6 (.mv (.c (.bool false)))] .ret) .skip)) (sR [fD 87 4 13,lA 88 2 87,lA 89 2 15,lA 90 7 3,oP 91 (.call 213 [.t 88,.t 89,.t 90]),mV 86 91,eX 92 86 0,eX 93 86 1,oP 16 (.alloc 70 [i0,i0,i0,i0,i0,i0,s0]),nP (.sto 7 (.t 16) (.t 92)),mV 8 93] (sR [lA 94 2 15,fD 95 4 13,nP (.sto 2 (.t 95) (.t 94))] (sR [mV 96 14,fD 97 0 2,nP (.sto 1 (.t 97) (.t 96))] (sR [fD 98 1 2,lD 99 1 98,mV 100 7,lA 101 8 13,oP 102 (.iad 8 (.t 99) (.t 100)),nP (.sto 8 (.t 102) (.t 101))] (.seq (sR [mV 103 8,oP 104 (.un .not (.t 103))] (.cond (.t 104) (sR [lA 105 2 2,oP 106 (.build [i0,i0,i0,i0,i0,i0,s0] []),nP (.sto 2 (.t 4) (.t 105)),nP (.sto 7 (.t 5) (.t 106)),oP 6 (.mv (.c (.bool false)))] .ret) .skip)) (sR [lA 107 2 12,fD 108 1 16,nP (.sto 2 (.t 108) (.t 107))] (.seq (.drw [0,0,1,7,15] [(0,lA 109 2 2),(1,lA 110 7 16),(2,nP (.sto 2 (.t 4) (.t 109))),(3,nP (.sto 7 (.t 5) (.t 110))),(4,oP 6 (.mv (.c (.bool true))))]) .ret)))))))))))))))
theorem dg191:Dg Tryz.prog 191 Tryz.f191 ic191 [(.cell 4 2 true),(.cell 5 7 true),(.t 6)]:=⟨Tryz.func191,by kernel_rfl,by kernel_rfl⟩
theorem c191 (d:Door) (p:Pk) (hd:doorOk d=true) (hl:d.flows.length≤3) (hp:PkP p) (hi:p.frm.inside=true) (ho:p.to.outside=true):FnP Tryz.prog G 191 0 [.arr 88 3 (d.map.map Pair.row),.arr 181 8 (d.flows.map Flw.row)]
 [.agg [.own 0 d.map.length,.own 1 d.flows.length],.agg [.int .i64 p.kind,.int .i64 p.frm.a,.int .i64 p.frm.p,.int .i64 p.to.a,.int .i64 p.to.p,.int .i64 p.at_,.str p.text]] (doorA (dOut d p)):=by
 refine mP dg191 Tryz.ntmps191 ⟨_,_,rfl,rfl⟩ ?_
 have hm:=(doorOk_iff.1 hd).1
 have hyes:=fun ok=>openR_ok hd hi ho ok
 have hout:=fun ok=>dOut_yes (p:=p) ok (hyes ok).kl
 have hno:=fun ok=>dOut_no (d:=d) (p:=p) ok
 have hno':=fun ok=>openR_no (d:=d) (i:=p.frm) (o:=p.to) ok
 simp only[ic191,go_sem]
 refine callU (c208 d p.frm p.to hm hl) [0,1] [] 23 2 (by simp only[go_sem];first|done|simp) (by simp only[go_sem];first|done|simp) (by simp) (by simp) (by rintro _ _ ⟨rfl,rfl⟩;simp) (by intro i hi;rcases(show i=0∨i=1 by omega) with rfl|rfl<;>simp only[go_sem]) ?_
 rintro _ _ ⟨rfl,rfl⟩
 simp only[go_sem]
 generalize hx:openR d p.frm p.to=x at *
 obtain⟨x,k,ok⟩:=x
 simp only at hyes hout hno hno'
 cases ok<;>simp only[go_sem]
 ·refine doorRet 102300 102301 (hno rfl) ?_ ?_ ?_ ?_ ?_ ?_ ?_ (by decide)<;>simp only[go_sem,hno' rfl,Option.isSome_none,Option.getD_none,Pk.zero,E.zero]
 obtain⟨x1,x2,x3,x4,x5,x6,x7,x8⟩:=hyes rfl
 rw[hout rfl]
 obtain⟨xp,xl⟩:=mapOk_ports x1
 have hmo:=mOut_found (fun p h=>(xp p h).1) x2
 clear hyes hout hno hno'
 refine callN (c209 x.map p.frm.a p.frm.p xp (by omega)) [102300] [] true 36 2 (by simp only[go_sem];first|done|simp) (by simp only[go_sem];first|done|simp) (by simp) (by simp) (by simp) ?_ ?_ ?_
 ·rintro res out (⟨_,rfl,rfl⟩|⟨rfl,rfl,_⟩)
  ·exact⟨by simp,by simp,.inl rfl,fun i hi=>by obtain rfl:i=0:=(by omega);simp[chH,stepOk]⟩
  ·exact⟨by simp,by simp,.inl rfl,fun i hi=>by obtain rfl:i=0:=(by omega);simp[chH,stepOk]⟩
 ·intro i hi
  have:i=0∨i=1:=by omega
  rcases this with rfl|rfl<;>simp only[go_sem]
 intro res out hoA
 obtain⟨_,rfl,rfl⟩:=hoA.resolve_right (fun h3=>h3.2.2.2 (by rw[hmo]))
 simp only[go_sem,hmo]
 have hg:x.flows.getD k default=Flw.at x k:=rfl
 rw[hg] at x6 x7
 have s1:=strmOk_B x6
 have s2:=strmOk_B x7
 have so:=sOut_len s2
 have hpa:=hp.at_
 have hpl:=hp.len
 have f1:=c210 (Flw.at x k).down s2
 have f2:=c211 (Flw.at x k).down p.at_ s2 (by omega)
 generalize hpo:portOf x.map p.frm=po at *
 with_reducible repeat' (first|refine br ?_ ?_<;>intro h e<;>(try simp only[e,go_sem,getD_mp x4,hg])<;>clear e|rw[i64w (by omega)]|refine sd ?_<;>try simp only[go_sem,getD_mp x4,hg]|(first|refine cr (f1 ..) ?_|refine cr (f2 ..) ?_)<;>try simp only[go_sem,getD_mp x4,hg]|fail)
 ·have:outK x k p=(x,none):=by
   simp only[outK];rw[if_pos (by assumption),if_pos (by omega)]
  refine doorRet 102300 102301 this ?_ ?_ ?_ ?_ ?_ ?_ ?_ (by decide)<;>simp only[go_sem,Option.isSome_none,Option.getD_none,Pk.zero,E.zero]
 ·have:outK x k p=(x,some ⟨2,⟨9,po⟩,p.to,backP (Flw.at x k).down.parts p.at_,[]⟩):=by
   simp only[outK,hpo];rw[if_pos (by assumption),if_neg (by omega)]
  refine doorRet 102300 102301 this ?_ ?_ ?_ ?_ ?_ ?_ ?_ (by decide)<;>simp only[go_sem,Option.isSome_some,Option.getD_some]
 have hpo2:PutOk x.map (Flw.at x k).up p.at_ p.text:=⟨x1,x6,hpa,hpl⟩
 refine callN (c212T x.map (Flw.at x k).up p.at_ p.text hpo2) [102300] [] true 78 2 (by simp only[go_sem];first|done|simp) (by simp only[go_sem];first|done|simp) (by simp) (by simp) (by simp) ?_ ?_ ?_
 ·rintro res out (⟨_,rfl,rfl⟩|⟨_,rfl,rfl⟩)
  ·exact⟨by simp,by simp,.inl rfl,fun i hi=>by obtain rfl:i=0:=(by omega);simp[chH,stepOk]⟩
  ·exact⟨by simp,by simp,.inl rfl,fun i hi=>by obtain rfl:i=0:=(by omega);simp[chH,stepOk]⟩
 ·intro i hi
  have:i=0∨i=1:=by omega
  rcases this with rfl|rfl<;>simp only[go_sem]
 have htx:=hp.tx.resolve_left (by assumption)
 have hpk:=put_ok (m:=x.map) (s:=(Flw.at x k).up) (n:=p.at_) (t:=p.text) (out:=true) x1 x6 htx hpa.1
 have hko:outK x k p=if(put x.map (Flw.at x k).up p.at_ p.text true).2.2=false then(x,none)
  else(⟨(put x.map (Flw.at x k).up p.at_ p.text true).1,x.flows.set k { Flw.at x k with up:=(put x.map (Flw.at x k).up p.at_ p.text true).2.1 }⟩,
   (sendOn (Flw.at x k).up (put x.map (Flw.at x k).up p.at_ p.text true).2.1 p).map fun q=>{ q with frm:=⟨9,po⟩ }):=by
  simp only[outK,hpo];rw[if_neg (by assumption)]
 rintro res out (⟨h,rfl,rfl⟩|⟨h,rfl,rfl⟩)
 ·generalize hP:put x.map (Flw.at x k).up p.at_ p.text true=P at *
  obtain⟨m',s',ok'⟩:=P
  simp only at h hpk hko
  subst h
  cases ok'<;>simp only[go_sem]
  ·rw[if_pos rfl] at hko
   with_reducible repeat' (first|refine br ?_ ?_<;>intro h e<;>(try simp only[e,go_sem])<;>clear e|rw[i64w (by omega)]|refine sd ?_<;>try simp only[go_sem]|fail)
   refine doorRet 102300 102301 hko ?_ ?_ ?_ ?_ ?_ ?_ ?_ (by decide)<;>simp only[go_sem,Option.isSome_none,Option.getD_none,Pk.zero,E.zero]
  rw[if_neg (by simp),sendR_on] at hko
  have f3:=c213 (Flw.at x k).up s' p (strmOk_B hpk.2) (by have:=s1.1;omega) (by omega) (by omega)
  generalize hS:sendR (Flw.at x k).up s' p=S at *
  obtain⟨q,okq⟩:=S
  simp only at hko
  cases okq
  all_goals
   with_reducible repeat' (first|refine br ?_ ?_<;>intro h e<;>(try simp only[e,go_sem])<;>clear e|rw[i64w (by omega)]|refine sd ?_<;>try simp only[go_sem]|(first|refine cr (f3 ..) ?_)<;>try simp only[go_sem]|fail)
  ·refine doorRet (d:=⟨x.map,x.flows.set k { Flw.at x k with up:=s' }⟩) (q:=none) 102300 102301 (by rw[hko];rfl) ?_ ?_ ?_ ?_ ?_ ?_ ?_ (by decide)<;>simp only[go_sem,Option.isSome_none,Option.getD_none,Pk.zero,E.zero,List.map_set,List.length_set,getD_mp x4,hg]
  ·refine doorRet (d:=⟨x.map,x.flows.set k { Flw.at x k with up:=s' }⟩) (q:=some { q with frm:=⟨9,po⟩ }) 102300 102301 (by rw[hko];rfl) ?_ ?_ ?_ ?_ ?_ ?_ ?_ (by decide)<;>simp only[go_sem,Option.isSome_some,Option.getD_some,List.map_set,List.length_set,getD_mp x4,hg]
 ·generalize hP:put x.map (Flw.at x k).up p.at_ p.text true=P at *
  obtain⟨m',s',ok'⟩:=P
  simp only at h hpk hko
  subst h
  simp only[go_sem]
  rw[if_neg (by simp),sendR_on] at hko
  have f3:=c213 (Flw.at x k).up s' p (strmOk_B hpk.2) (by have:=s1.1;omega) (by omega) (by omega)
  generalize hS:sendR (Flw.at x k).up s' p=S at *
  obtain⟨q,okq⟩:=S
  simp only at hko
  cases okq
  all_goals
   with_reducible repeat' (first|refine br ?_ ?_<;>intro h e<;>(try simp only[e,go_sem])<;>clear e|rw[i64w (by omega)]|refine sd ?_<;>try simp only[go_sem]|(first|refine cr (f3 ..) ?_)<;>try simp only[go_sem]|fail)
  ·refine doorRet (d:=⟨m',x.flows.set k { Flw.at x k with up:=s' }⟩) (q:=none) 107801 102301 (by rw[hko];rfl) ?_ ?_ ?_ ?_ ?_ ?_ ?_ (by decide)<;>simp only[go_sem,Option.isSome_none,Option.getD_none,Pk.zero,E.zero,List.map_set,List.length_set,getD_mp x4,hg]
  ·refine doorRet (d:=⟨m',x.flows.set k { Flw.at x k with up:=s' }⟩) (q:=some { q with frm:=⟨9,po⟩ }) 107801 102301 (by rw[hko];rfl) ?_ ?_ ?_ ?_ ?_ ?_ ?_ (by decide)<;>simp only[go_sem,Option.isSome_some,Option.getD_some,List.map_set,List.length_set,getD_mp x4,hg]
def ic192:IC:=sR [oP 2 (.box 38 (.t 0)),oP 3 (.box 70 (.t 1)),oP 4 (.alloc 38 [.nils,.nils]),oP 5 (.alloc 70 [i0,i0,i0,i0,i0,i0,s0]),oP 6 (.mv (.c (.bool false)))] (sR [fD 15 0 2,lD 16 1 15,fD 17 3 3,fD 18 1 17,lD 19 1 18,oP 20 (.call 214 [.t 16,.t 19]),mV 14 20,eX 21 14 0,eX 22 14 1,oP 7 (.alloc 45 [i0,i0]),nP (.sto 2 (.t 7) (.t 21)),mV 8 22] (sR [fD 23 1 2,lD 24 1 23,lA 25 2 7,fD 26 1 3,lA 27 2 26,oP 28 (.call 172 [.t 24,.t 25,.t 27]),mV 9 28] (.seq (sR [mV 29 8,oP 30 (.un .not (.t 29)),mV 31 30,⟨some 32,some (31,false),.mv (.t 9)⟩,⟨some 33,some (31,false),.bin .lss (.t 32) (.c i0)⟩,oP 34 (.pick (.t 31) (.c (.bool true)) (.t 33))] (.cond (.t 34) (sR [lA 35 2 2,oP 36 (.build [i0,i0,i0,i0,i0,i0,s0] []),nP (.sto 2 (.t 4) (.t 35)),nP (.sto 7 (.t 5) (.t 36)),oP 6 (.mv (.c (.bool false)))] .ret) .skip)) (sR [fD 37 1 2,lD 38 1 37,mV 39 9,oP 40 (.iad 8 (.t 38) (.t 39)),lA 41 8 40,oP 10 (.alloc 181 [i0,i0,i0,i0,s0,.nils,s0,.nils]),nP (.sto 8 (.t 10) (.t 41))] (.seq (sR [fD 42 0 3,lD 43 1 42,oP 44 (.bin .eql (.t 43) (.c (.int .i64 2)))] (.cond (.t 44) (.seq (.seq (.drw [0,1,0,4,12,28,63] [(0,fD 45 5 3),(1,lD 46 1 45),(2,fD 47 4 10),(3,lA 48 2 47),(4,oP 49 (.call 210 [.t 48])),(5,oP 50 (.lens (.t 49))),(6,bN 51 .gtr 46 50)]) (.cond (.t 51) (sR [lA 52 2 2,oP 53 (.build [i0,i0,i0,i0,i0,i0,s0] []),nP (.sto 2 (.t 4) (.t 52)),nP (.sto 7 (.t 5) (.t 53)),oP 6 (.mv (.c (.bool false)))] .ret) .skip)) (.seq (.drw [0,0,2,0,0,16,0,64,240,510,497,2047,4095] [(0,lA 54 2 2),(1,fD 55 1 3),(2,lA 56 2 55),(3,lA 57 2 7),(4,fD 58 4 10),(5,lA 59 2 58),(6,fD 60 5 3),(7,lD 61 1 60),(8,oP 62 (.call 211 [.t 59,.t 61])),(9,oP 63 (.build [i0,i0,i0,i0,i0,i0,s0] [(0,(1,.c (.int .i64 2))),(1,(2,.t 56)),(3,(2,.t 57)),(5,(1,.t 62))])),(10,nP (.sto 2 (.t 4) (.t 54))),(11,nP (.sto 7 (.t 5) (.t 63))),(12,oP 6 (.mv (.c (.bool true))))]) .ret)) .skip)) (sR [fD 65 0 2,lD 66 1 65,fD 67 6 10,lA 68 2 67,fD 69 5 3,lD 70 1 69,fD 71 6 3,lD 72 1 71,oP 73 (.call 212 [.t 66,.t 68,.t 70,.t 72,.c (.bool false)]),mV 64 73,eX 74 64 0,eX 75 64 1,eX 76 64 2,oP 12 (.alloc 179 [s0,.nils]),mV 11 74,nP (.sto 2 (.t 12) (.t 75)),mV 8 76] (.seq (sR [mV 77 8,oP 78 (.un .not (.t 77))] (.cond (.t 78) (sR [lA 79 2 2,oP 80 (.build [i0,i0,i0,i0,i0,i0,s0] []),nP (.sto 2 (.t 4) (.t 79)),nP (.sto 7 (.t 5) (.t 80)),oP 6 (.mv (.c (.bool false)))] .ret) .skip)) (sR [fD 82 6 10,lA 83 2 82,lA 84 2 12,lA 85 7 3,oP 86 (.call 213 [.t 83,.t 84,.t 85]),mV 81 86,eX 87 81 0,eX 88 81 1,oP 13 (.alloc 70 [i0,i0,i0,i0,i0,i0,s0]),nP (.sto 7 (.t 13) (.t 87)),mV 8 88] (sR [lA 89 2 12,fD 90 6 10,nP (.sto 2 (.t 90) (.t 89))] (sR [fD 91 1 2,lD 92 1 91,mV 93 9,lA 94 8 10,oP 95 (.iad 8 (.t 92) (.t 93)),nP (.sto 8 (.t 95) (.t 94))] (.seq (sR [mV 96 8,oP 97 (.un .not (.t 96))] (.cond (.t 97) (sR [lA 98 2 2,oP 99 (.build [i0,i0,i0,i0,i0,i0,s0] []),nP (.sto 2 (.t 4) (.t 98)),nP (.sto 7 (.t 5) (.t 99)),oP 6 (.mv (.c (.bool false)))] .ret) .skip)) (sR [lA 100 2 7,fD 101 3 13,nP (.sto 2 (.t 101) (.t 100))] (.seq (.drw [0,0,1,7,15] [(0,lA 102 2 2),(1,lA 103 7 13),(2,nP (.sto 2 (.t 4) (.t 102))),(3,nP (.sto 7 (.t 5) (.t 103))),(4,oP 6 (.mv (.c (.bool true))))]) .ret)))))))))))))
theorem dg192:Dg Tryz.prog 192 Tryz.f192 ic192 [(.cell 4 2 true),(.cell 5 7 true),(.t 6)]:=⟨Tryz.func192,by kernel_rfl,by kernel_rfl⟩
theorem c192 (d:Door) (p:Pk) (hd:doorOk d=true) (hp:PkP p) (hi:p.to.door=true):FnP Tryz.prog G 192 0 [.arr 88 3 (d.map.map Pair.row),.arr 181 8 (d.flows.map Flw.row)]
 [.agg [.own 0 d.map.length,.own 1 d.flows.length],.agg [.int .i64 p.kind,.int .i64 p.frm.a,.int .i64 p.frm.p,.int .i64 p.to.a,.int .i64 p.to.p,.int .i64 p.at_,.str p.text]] (doorA (dIn d p)):=by
 refine mP dg192 Tryz.ntmps192 ⟨_,_,rfl,rfl⟩ ?_
 obtain⟨hm,hfl,_⟩:=doorOk_iff.1 hd
 have hdr:=E.door_iff.1 hi
 simp only[ic192,go_sem]
 refine callF (c214 d.map p.to.p hm (by omega)) [0] false (by simp only[go_sem];first|done|simp[E.row,Pc.row,Pair.row,Part.row,Flw.row,Pk.row,Conv.row]) (by simp only[List.mem_singleton];rintro c rfl;rfl) rfl (.inr rfl) ?_
 simp only[go_sem]
 cases hin:insideOf d.map p.to.p with
 | none =>
   simp only[go_sem,Option.isSome_none,Option.getD_none,E.zero]
   refine callF (c172 d.flows ⟨0,0⟩ p.frm (by omega)) [1] false (by simp only[go_sem];first|done|simp[E.row,Pc.row,Pair.row,Part.row,Flw.row,Pk.row,Conv.row]) (by simp only[List.mem_singleton];rintro c rfl;rfl) rfl (.inr rfl) ?_
   simp only[go_sem]
   with_reducible repeat' (first|refine br ?_ ?_<;>intro h e<;>(try simp only[e,go_sem])<;>clear e|rw[i64w (by omega)]|refine sd ?_<;>try simp only[go_sem]|fail)
   refine doorRet (q:=none) 0 1 (dIn_no1 hin) ?_ ?_ ?_ ?_ ?_ ?_ ?_ (by decide)<;>simp only[go_sem,Option.isSome_none,Option.getD_none,Pk.zero,E.zero]
 | some i =>
   simp only[go_sem,Option.isSome_some,Option.getD_some]
   refine callF (c172 d.flows i p.frm (by omega)) [1] false (by simp only[go_sem];first|done|simp[E.row,Pc.row,Pair.row,Part.row,Flw.row,Pk.row,Conv.row]) (by simp only[List.mem_singleton];rintro c rfl;rfl) rfl (.inr rfl) ?_
   simp only[go_sem]
   cases hf:flowIx d.flows i p.frm with
   | none =>
     simp only[ixI,go_sem]
     with_reducible repeat' (first|refine br ?_ ?_<;>intro h e<;>(try simp only[e,go_sem])<;>clear e|rw[i64w (by omega)]|refine sd ?_<;>try simp only[go_sem]|fail)
     refine doorRet (q:=none) 0 1 (dIn_no2 hin hf) ?_ ?_ ?_ ?_ ?_ ?_ ?_ (by decide)<;>simp only[go_sem,Option.isSome_none,Option.getD_none,Pk.zero,E.zero]
   | some k =>
     obtain⟨hk,hke⟩:=dIn_yes hin hf
     rw[hke]
     have hg:d.flows.getD k default=Flw.at d k:=rfl
     have hfk:d.flows[k]?=some (Flw.at d k):=by simp[Flw.at,List.getD,hk]
     obtain⟨_,_,x6,x7,_⟩:=flow_at hd hfk
     have s1:=strmOk_B x6
     have s2:=strmOk_B x7
     have so:=sOut_len s1
     have hpa:=hp.at_
     have hpl:=hp.len
     have f1:=c210 (Flw.at d k).up s1
     have f2:=c211 (Flw.at d k).up p.at_ s1 (by omega)
     have hlt:¬((k:Int)<0):=by omega
     simp only[ixI,go_sem,eq_false hlt]
     with_reducible repeat' (first|refine br ?_ ?_<;>intro h e<;>(try simp only[e,go_sem,getD_mp hk,hg])<;>clear e|rw[i64w (by omega)]|refine sd ?_<;>try simp only[go_sem,getD_mp hk,hg]|(first|refine cr (f1 ..) ?_|refine cr (f2 ..) ?_)<;>try simp only[go_sem,getD_mp hk,hg]|fail)
     ·have:inK d k i p=(d,none):=by
       simp only[inK];rw[if_pos (by assumption),if_pos (by omega)]
      refine doorRet (q:=none) 0 1 this ?_ ?_ ?_ ?_ ?_ ?_ ?_ (by decide)<;>simp only[go_sem,Option.isSome_none,Option.getD_none,Pk.zero,E.zero]
     ·have:inK d k i p=(d,some ⟨2,p.frm,i,backP (Flw.at d k).up.parts p.at_,[]⟩):=by
       simp only[inK];rw[if_pos (by assumption),if_neg (by omega)]
      refine doorRet 0 1 this ?_ ?_ ?_ ?_ ?_ ?_ ?_ (by decide)<;>simp only[go_sem,Option.isSome_some,Option.getD_some]
     refine callN (c212F d.map (Flw.at d k).down p.at_ p.text ⟨hm,x7,hpa,hpl⟩) [0] [] true 73 1 (by simp only[go_sem];first|done|simp) (by simp only[go_sem];first|done|simp) (by simp) (by simp) (by simp) ?_ ?_ ?_
     ·rintro res out ⟨_,rfl,rfl⟩
      exact⟨by simp,by simp,.inl rfl,fun i hi=>by obtain rfl:i=0:=(by omega);simp[chH,stepOk]⟩
     ·intro i hi
      obtain rfl:i=0:=by omega
      simp only[go_sem]
     have htx:=hp.tx.resolve_left (by assumption)
     have hpk:=put_ok (m:=d.map) (s:=(Flw.at d k).down) (n:=p.at_) (t:=p.text) (out:=false) hm x7 htx hpa.1
     have hko:inK d k i p=if(put d.map (Flw.at d k).down p.at_ p.text false).2.2=false then(d,none)
      else(⟨d.map,d.flows.set k { Flw.at d k with down:=(put d.map (Flw.at d k).down p.at_ p.text false).2.1 }⟩,
       (sendOn (Flw.at d k).down (put d.map (Flw.at d k).down p.at_ p.text false).2.1 p).map fun q=>{ q with to:=i }):=by
      simp only[inK];rw[if_neg (by assumption)]
     rintro res out ⟨h,rfl,rfl⟩
     generalize hP:put d.map (Flw.at d k).down p.at_ p.text false=P at *
     obtain⟨m',s',ok'⟩:=P
     simp only at h hpk hko
     subst h
     cases ok'<;>simp only[go_sem]
     ·rw[if_pos rfl] at hko
      with_reducible repeat' (first|refine br ?_ ?_<;>intro h e<;>(try simp only[e,go_sem])<;>clear e|rw[i64w (by omega)]|refine sd ?_<;>try simp only[go_sem]|fail)
      refine doorRet (q:=none) 0 1 hko ?_ ?_ ?_ ?_ ?_ ?_ ?_ (by decide)<;>simp only[go_sem,Option.isSome_none,Option.getD_none,Pk.zero,E.zero]
     rw[if_neg (by simp),sendR_on] at hko
     have f3:=c213 (Flw.at d k).down s' p (strmOk_B hpk.2) (by have:=s2.1;omega) (by omega) (by omega)
     generalize hS:sendR (Flw.at d k).down s' p=S at *
     obtain⟨q,okq⟩:=S
     simp only at hko
     cases okq
     all_goals
      with_reducible repeat' (first|refine br ?_ ?_<;>intro h e<;>(try simp only[e,go_sem])<;>clear e|rw[i64w (by omega)]|refine sd ?_<;>try simp only[go_sem]|(first|refine cr (f3 ..) ?_)<;>try simp only[go_sem]|fail)
     ·refine doorRet (d:=⟨d.map,d.flows.set k { Flw.at d k with down:=s' }⟩) (q:=none) 0 1 (by rw[hko];rfl) ?_ ?_ ?_ ?_ ?_ ?_ ?_ (by decide)<;>simp only[go_sem,Option.isSome_none,Option.getD_none,Pk.zero,E.zero,List.map_set,List.length_set,getD_mp hk,hg]
     ·refine doorRet (d:=⟨d.map,d.flows.set k { Flw.at d k with down:=s' }⟩) (q:=some { q with to:=i }) 0 1 (by rw[hko];rfl) ?_ ?_ ?_ ?_ ?_ ?_ ?_ (by decide)<;>simp only[go_sem,Option.isSome_some,Option.getD_some,List.map_set,List.length_set,getD_mp hk,hg]
def ic175:IC:=sR [oP 2 (.box 38 (.t 0)),oP 3 (.box 70 (.t 1)),oP 4 (.alloc 38 [.nils,.nils]),oP 5 (.alloc 70 [i0,i0,i0,i0,i0,i0,s0]),oP 6 (.mv (.c (.bool false)))] (.seq (.block 0 (sR [fD 8 1 3,lA 9 2 8,oP 10 (.call 94 [.t 9]),mV 11 10,⟨some 12,some (11,true),.fad 3 (.t 3)⟩,⟨some 13,some (11,true),.ld 2 true (.t 12)⟩,⟨some 14,some (11,true),.call 95 [.t 13]⟩,oP 15 (.pick (.t 11) (.t 14) (.c (.bool false))),mV 7 15] (.cond (.t 7) (sR [lA 16 2 2,lA 17 7 3,oP 18 (.call 191 [.t 16,.t 17]),eX 19 18 0,eX 20 18 1,eX 21 18 2,nP (.sto 2 (.t 4) (.t 19)),nP (.sto 7 (.t 5) (.t 20)),mV 6 21] .ret) (sR [fD 23 1 3,lA 24 2 23,oP 25 (.call 95 [.t 24]),mV 26 25,⟨some 27,some (26,true),.fad 3 (.t 3)⟩,⟨some 28,some (26,true),.ld 2 true (.t 27)⟩,⟨some 29,some (26,true),.call 110 [.t 28]⟩,oP 30 (.pick (.t 26) (.t 29) (.c (.bool false))),mV 22 30] (.cond (.t 22) (sR [lA 31 2 2,lA 32 7 3,oP 33 (.call 192 [.t 31,.t 32]),eX 34 33 0,eX 35 33 1,eX 36 33 2,nP (.sto 2 (.t 4) (.t 34)),nP (.sto 7 (.t 5) (.t 35)),mV 6 36] .ret) .skip))))) (sR [lA 37 2 2,oP 38 (.build [i0,i0,i0,i0,i0,i0,s0] []),nP (.sto 2 (.t 4) (.t 37)),nP (.sto 7 (.t 5) (.t 38)),oP 6 (.mv (.c (.bool false)))] .ret))
theorem dg175:Dg Tryz.prog 175 Tryz.f175 ic175 [(.cell 4 2 true),(.cell 5 7 true),(.t 6)]:=⟨Tryz.func175,by kernel_rfl,by kernel_rfl⟩
theorem c175 (d:Door) (p:Pk) (hd:doorOk d=true) (hl:d.flows.length≤3) (hp:PkP p):FnP Tryz.prog G 175 0 [.arr 88 3 (d.map.map Pair.row),.arr 181 8 (d.flows.map Flw.row)]
 [.agg [.own 0 d.map.length,.own 1 d.flows.length],.agg [.int .i64 p.kind,.int .i64 p.frm.a,.int .i64 p.frm.p,.int .i64 p.to.a,.int .i64 p.to.p,.int .i64 p.at_,.str p.text]] (doorA (dPass d p)):=by
 refine mP dg175 Tryz.ntmps175 ⟨_,_,rfl,rfl⟩ ?_
 simp only[ic175,go_sem]
 with_reducible repeat' (first|refine br ?_ ?_<;>intro h e<;>(try simp only[e,go_sem])<;>clear e|rw[i64w (by omega)]|refine sd ?_<;>try simp only[go_sem]|(first|refine cr (c94 ..) ?_|refine cr (c95 ..) ?_|refine cr (c110 ..) ?_)<;>try simp only[go_sem]|fail)
 all_goals first
  | (have hx:dPass d p=(d,none):=by simp_all[dPass,Pk.outward,Pk.inward]
     refine doorRet (q:=none) 0 1 hx ?_ ?_ ?_ ?_ ?_ ?_ ?_ (by decide)<;>simp only[go_sem,Option.isSome_none,Option.getD_none,Pk.zero,E.zero])
  | (have hx:dPass d p=dOut d p:=by simp_all[dPass,Pk.outward,Pk.inward]
     refine callU (c191 d p hd hl hp (by assumption) (by assumption)) [0,1] [] 18 2 (by simp only[go_sem];first|done|simp) (by simp only[go_sem];first|done|simp) (by simp) (by simp) (by rintro _ _ ⟨rfl,rfl⟩;simp) (by intro i hi;rcases(show i=0∨i=1 by omega) with rfl|rfl<;>simp only[go_sem]) ?_
     rintro _ _ ⟨rfl,rfl⟩
     simp only[go_sem]
     refine doorRet (d:=(dOut d p).1) (q:=(dOut d p).2) 101800 101801 hx ?_ ?_ ?_ ?_ ?_ ?_ ?_ (by decide)<;>simp only[go_sem])
  | (have hx:dPass d p=dIn d p:=by simp_all[dPass,Pk.outward,Pk.inward]
     refine callU (c192 d p hd hp (by assumption)) [0,1] [] 33 2 (by simp only[go_sem];first|done|simp) (by simp only[go_sem];first|done|simp) (by simp) (by simp) (by rintro _ _ ⟨rfl,rfl⟩;simp) (by intro i hi;rcases(show i=0∨i=1 by omega) with rfl|rfl<;>simp only[go_sem]) ?_
     rintro _ _ ⟨rfl,rfl⟩
     simp only[go_sem]
     refine doorRet (d:=(dIn d p).1) (q:=(dIn d p).2) 103300 103301 hx ?_ ?_ ?_ ?_ ?_ ?_ ?_ (by decide)<;>simp only[go_sem])
def passA (x:M.World×Option Pk) (r:V) (out:List Hs):Prop:=r=.tup [.agg [.own 0 x.1.convs.length,.own 1 x.1.door.map.length,.own 2 x.1.door.flows.length,.own 3 x.1.nets.length],.agg (Pk.row (x.2.getD .zero)),.bool x.2.isSome]∧out=[.arr 47 10 (x.1.convs.map Conv.row),.arr 88 3 (x.1.door.map.map Pair.row),.arr 181 8 (x.1.door.flows.map Flw.row),.arr 70 7 (x.1.nets.map Pk.row)]
theorem passRet {x:M.World×Option Pk} {w:M.World} {q:Option Pk} {l:List (Nat×V)} {mm:List (Nat×Hs)} (n0 n1 n2 n3:Nat) (hx:x=(w,q)) (h4:getL l 4=.pv 1004 0) (h5:getL l 5=.pv 1005 0) (h6:getL l 6=.bool q.isSome)
 (m4:getH mm 1004=.var 41 [.own n0 w.convs.length,.own n1 w.door.map.length,.own n2 w.door.flows.length,.own n3 w.nets.length]) (m5:getH mm 1005=.var 70 (Pk.row (q.getD .zero)))
 (m0:getH mm n0=.arr 47 10 (w.convs.map Conv.row)) (m1:getH mm n1=.arr 88 3 (w.door.map.map Pair.row)) (m2:getH mm n2=.arr 181 8 (w.door.flows.map Flw.row)) (m3:getH mm n3=.arr 70 7 (w.nets.map Pk.row))
 (hne:[n0,n1,n2,n3].Nodup):retQ [.cell 4 4 true,.cell 5 7 true,.t 6] 0 (passA x) .ret ⟨getL l,getH mm⟩:=by
 subst hx
 refine retN (.tup [.agg [.own 0 w.convs.length,.own 1 w.door.map.length,.own 2 w.door.flows.length,.own 3 w.nets.length],.agg (Pk.row (q.getD .zero)),.bool q.isSome]) [.arr 47 10 (w.convs.map Conv.row),.arr 88 3 (w.door.map.map Pair.row),.arr 181 8 (w.door.flows.map Flw.row),.arr 70 7 (w.nets.map Pk.row)] [(0,n0),(1,n1),(2,n2),(3,n3)] ?_ ⟨rfl,rfl⟩ ?_ (by simpa[argH,getN] using hne) (by simp only[go_sem])
 ·simp only[go_sem,h4,h5,h6,m4,m5]
 ·simp only[go_sem,m0,m1,m2,m3]
def ic193:IC:=sR [oP 3 (.box 47 (.t 0)),oP 5 (.box 70 (.t 2)),oP 6 (.alloc 47 [i0,i0,i0,i0,s0,s0,i0,i0,s0,s0]),oP 7 (.alloc 70 [i0,i0,i0,i0,i0,i0,s0]),oP 8 (.mv (.c (.bool false)))] (sR [fD 10 3 5,lA 11 2 10,fD 12 1 5,lA 13 2 12,oP 14 (.build [i0,i0,i0,i0,i0,i0,s0] [(0,(1,.c (.int .i64 2))),(1,(2,.t 11)),(3,(2,.t 13))]),oP 9 (.alloc 70 [i0,i0,i0,i0,i0,i0,s0]),nP (.sto 7 (.t 9) (.t 14))] (.seq (sR [mV 15 1,mV 16 15,⟨some 17,some (16,true),.fad 1 (.t 5)⟩,⟨some 18,some (16,true),.ld 2 true (.t 17)⟩,⟨some 19,some (16,true),.fad 2 (.t 3)⟩,⟨some 20,some (16,true),.ld 2 true (.t 19)⟩,⟨some 21,some (16,true),.eqs true [.i,.i] (.t 18) (.t 20)⟩,⟨some 22,some (16,true),.mv (.t 21)⟩,⟨some 23,some (22,false),.fad 3 (.t 5)⟩,⟨some 24,some (22,false),.ld 2 true (.t 23)⟩,⟨some 25,some (22,false),.fad 0 (.t 3)⟩,⟨some 26,some (22,false),.ld 2 true (.t 25)⟩,⟨some 27,some (22,false),.eqs true [.i,.i] (.t 24) (.t 26)⟩,⟨some 28,some (16,true),.pick (.t 22) (.c (.bool true)) (.t 27)⟩,oP 29 (.pick (.t 16) (.t 28) (.c (.bool false))),mV 30 29,⟨some 31,some (30,false),.mv (.t 1)⟩,⟨some 32,some (30,false),.un .not (.t 31)⟩,⟨some 33,some (30,false),.mv (.t 32)⟩,⟨some 34,some (33,true),.fad 3 (.t 5)⟩,⟨some 35,some (33,true),.ld 2 true (.t 34)⟩,⟨some 36,some (33,true),.fad 2 (.t 3)⟩,⟨some 37,some (33,true),.ld 2 true (.t 36)⟩,⟨some 38,some (33,true),.eqs true [.i,.i] (.t 35) (.t 37)⟩,⟨some 39,some (33,true),.mv (.t 38)⟩,⟨some 40,some (39,false),.fad 1 (.t 5)⟩,⟨some 41,some (39,false),.ld 2 true (.t 40)⟩,⟨some 42,some (39,false),.call 110 [.t 41]⟩,⟨some 43,some (39,false),.un .not (.t 42)⟩,⟨some 44,some (33,true),.pick (.t 39) (.c (.bool true)) (.t 43)⟩,⟨some 45,some (30,false),.pick (.t 33) (.t 44) (.c (.bool false))⟩,oP 46 (.pick (.t 30) (.c (.bool true)) (.t 45))] (.cond (.t 46) (sR [lA 47 10 3,oP 48 (.build [i0,i0,i0,i0,i0,i0,s0] []),nP (.sto 10 (.t 6) (.t 47)),nP (.sto 7 (.t 7) (.t 48)),oP 8 (.mv (.c (.bool false)))] .ret) .skip)) (.seq (.block 0 (sR [fD 60 0 5,lD 61 1 60,oP 62 (.bin .eql (.t 61) (.c (.int .i64 1))),mV 63 62,⟨some 64,some (63,true),.mv (.t 1)⟩,oP 65 (.pick (.t 63) (.t 64) (.c (.bool false))),mV 59 65] (.cond (.t 59) (sR [fD 67 9 3,lD 68 1 67,fD 69 5 5,lD 70 1 69,fD 71 6 5,lD 72 1 71,oP 73 (.call 215 [.t 68,.t 70,.t 72]),mV 66 73,eX 74 66 0,eX 75 66 1,fD 76 9 3,nP (.sto 1 (.t 76) (.t 74))] (sR [fD 77 9 3,lD 78 1 77,oP 79 (.lens (.t 78)),fD 80 5 9,nP (.sto 1 (.t 80) (.t 79))] (.seq (.drw [0,0,1,7,15] [(0,lA 81 10 3),(1,lA 82 7 9),(2,nP (.sto 10 (.t 6) (.t 81))),(3,nP (.sto 7 (.t 7) (.t 82))),(4,oP 8 (.mv (.c (.bool true))))]) .ret))) (sR [fD 84 0 5,lD 85 1 84,oP 86 (.bin .eql (.t 85) (.c (.int .i64 1))),mV 83 86] (.cond (.t 83) (sR [fD 88 8 3,lD 89 1 88,fD 90 5 5,lD 91 1 90,fD 92 6 5,lD 93 1 92,oP 94 (.call 215 [.t 89,.t 91,.t 93]),mV 87 94,eX 95 87 0,eX 96 87 1,fD 97 8 3,nP (.sto 1 (.t 97) (.t 95))] (sR [fD 98 8 3,lD 99 1 98,oP 100 (.lens (.t 99)),fD 101 5 9,nP (.sto 1 (.t 101) (.t 100))] (.seq (.drw [0,0,1,7,15] [(0,lA 102 10 3),(1,lA 103 7 9),(2,nP (.sto 10 (.t 6) (.t 102))),(3,nP (.sto 7 (.t 7) (.t 103))),(4,oP 8 (.mv (.c (.bool true))))]) .ret))) (sR [mV 105 1,mV 104 105] (.cond (.t 104) (.reg [fD 106 6 3,lD 107 1 106,fD 108 5 5,lD 109 1 108,fD 110 4 3,lD 111 1 110,oP 112 (.lens (.t 111)),oP 113 (.mn (.t 109) (.t 112)),oP 114 (.mx (.t 107) (.t 113)),fD 115 6 3,nP (.sto 1 (.t 115) (.t 114))]) (.reg [fD 49 7 3,lD 50 1 49,fD 51 5 5,lD 52 1 51,fD 53 5 3,lD 54 1 53,oP 55 (.lens (.t 54)),oP 56 (.mn (.t 52) (.t 55)),oP 57 (.mx (.t 50) (.t 56)),fD 58 7 3,nP (.sto 1 (.t 58) (.t 57))])))))))) (sR [lA 116 10 3,oP 117 (.build [i0,i0,i0,i0,i0,i0,s0] []),nP (.sto 10 (.t 6) (.t 116)),nP (.sto 7 (.t 7) (.t 117)),oP 8 (.mv (.c (.bool false)))] .ret))))
theorem dg193:Dg Tryz.prog 193 Tryz.f193 ic193 [(.cell 6 10 true),(.cell 7 7 true),(.t 8)]:=⟨Tryz.func193,by kernel_rfl,by kernel_rfl⟩
theorem c193 (c:Conv) (b:Bool) (p:Pk) (hc:CvB c) (hp:PkP p):FnR Tryz.prog G 193 [.agg [.int .i64 c.ins.a,.int .i64 c.ins.p,.int .i64 c.out.a,.int .i64 c.out.p,.str c.up,.str c.down,.int .i64 c.upAck,.int .i64 c.downAck,.str c.upGot,.str c.downGot],.bool b,.agg [.int .i64 p.kind,.int .i64 p.frm.a,.int .i64 p.frm.p,.int .i64 p.to.a,.int .i64 p.to.p,.int .i64 p.at_,.str p.text]]
 (.tup [.agg (Conv.row (hear c b p).1),.agg (Pk.row ((hear c b p).2.getD .zero)),.bool (hear c b p).2.isSome]):=by
 refine mF dg193 Tryz.ntmps193 ?_
 have h1:=hp.at_
 have h2:=hp.len
 have h3:=hc.upGot
 have h4:=hc.downGot
 have g1:=c215 c.upGot p.at_ p.text (by omega) (by omega) (by omega)
 have g2:=c215 c.downGot p.at_ p.text (by omega) (by omega) (by omega)
 simp only[ic193,go_sem]
 cases b<;>simp only[go_sem,E.ext_iff']
 all_goals
  with_reducible repeat' (first|refine br ?_ ?_<;>intro h e<;>(try simp only[e,go_sem,E.ext_iff'])<;>clear e|rw[i64w (by omega)]|refine sd ?_<;>try simp only[go_sem,E.ext_iff']|(first|refine cr (c110 ..) ?_|refine cr (g1 ..) ?_|refine cr (g2 ..) ?_)<;>try simp only[go_sem,E.ext_iff']|fail)
 all_goals clear g1 g2
 all_goals first
  | (simp_all[hear,Pk.zero,E.zero];done)
  | (have hk:p.kind=2:=by have:=hp.kd;omega
     simp_all[hear,Pk.zero,E.zero];done)
def ic176:IC:=sR [oP 2 (.box 41 (.t 0)),oP 3 (.box 70 (.t 1)),oP 4 (.alloc 41 [.nils,.nils,.nils,.nils]),oP 5 (.alloc 70 [i0,i0,i0,i0,i0,i0,s0]),oP 6 (.mv (.c (.bool false)))] (.seq (sR [oP 7 (.mv (.c i0))] (.block 0 (.loop (.seq (sR [mV 14 7,fD 15 0 2,lD 16 1 15,oP 17 (.len (.t 16)),bN 18 .lss 14 17] (.cond (.t 18) .skip (.exit 0))) (.seq (.block 1 (sR [fD 21 0 2,lD 22 1 21,mV 23 7,oP 24 (.iad 10 (.t 22) (.t 23)),lA 25 10 24,oP 8 (.alloc 47 [i0,i0,i0,i0,s0,s0,i0,i0,s0,s0]),nP (.sto 10 (.t 8) (.t 25))] (sR [fD 26 3 3,lA 27 2 26,fD 28 0 8,lA 29 2 28,oP 30 (.eqs false [.i,.i] (.t 27) (.t 29)),mV 31 30,⟨some 32,some (31,true),.fad 1 (.t 3)⟩,⟨some 33,some (31,true),.ld 2 true (.t 32)⟩,⟨some 34,some (31,true),.fad 2 (.t 8)⟩,⟨some 35,some (31,true),.ld 2 true (.t 34)⟩,⟨some 36,some (31,true),.eqs false [.i,.i] (.t 33) (.t 35)⟩,oP 37 (.pick (.t 31) (.t 36) (.c (.bool false))),mV 9 37] (.seq (.drw [0,1,0,4,15,31,63,127,255,511,1023,2047,2047,6143,16383,2047,34815,100351,262143,524287,1048575] [(0,fD 38 3 3),(1,lA 39 2 38),(2,fD 40 2 8),(3,lA 41 2 40),(4,oP 42 (.eqs false [.i,.i] (.t 39) (.t 41))),(5,mV 43 42),(6,⟨some 44,some (43,true),.fad 1 (.t 3)⟩),(7,⟨some 45,some (43,true),.ld 2 true (.t 44)⟩),(8,⟨some 46,some (43,true),.call 110 [.t 45]⟩),(9,oP 47 (.pick (.t 43) (.t 46) (.c (.bool false)))),(10,mV 48 47),(11,⟨some 49,some (48,true),.ld 4 true (.t 2)⟩),(12,⟨some 50,some (48,true),.fad 0 (.t 8)⟩),(13,⟨some 51,some (48,true),.ld 2 true (.t 50)⟩),(14,⟨some 52,some (48,true),.call 144 [.t 49,.t 51]⟩),(15,⟨some 53,some (48,true),.fad 1 (.t 3)⟩),(16,⟨some 54,some (48,true),.fad 1 (.t 53)⟩),(17,⟨some 55,some (48,true),.ld 1 false (.t 54)⟩),(18,⟨some 56,some (48,true),.bin .eql (.t 52) (.t 55)⟩),(19,oP 57 (.pick (.t 48) (.t 56) (.c (.bool false)))),(20,mV 10 57)]) (sR [mV 58 9,mV 59 58,⟨some 60,some (59,false),.mv (.t 10)⟩,oP 61 (.pick (.t 59) (.c (.bool true)) (.t 60))] (.cond (.t 61) (sR [lA 63 10 8,mV 64 9,lA 65 7 3,oP 66 (.call 193 [.t 63,.t 64,.t 65]),mV 62 66,eX 67 62 0,eX 68 62 1,eX 69 62 2,oP 11 (.alloc 47 [i0,i0,i0,i0,s0,s0,i0,i0,s0,s0]),oP 12 (.alloc 70 [i0,i0,i0,i0,i0,i0,s0]),nP (.sto 10 (.t 11) (.t 67)),nP (.sto 7 (.t 12) (.t 68)),mV 13 69] (sR [fD 70 0 2,lD 71 1 70,mV 72 7,lA 73 10 11,oP 74 (.iad 10 (.t 71) (.t 72)),nP (.sto 10 (.t 74) (.t 73))] (.seq (.drw [0,0,0,1,11,31] [(0,lA 75 4 2),(1,lA 76 7 12),(2,mV 77 13),(3,nP (.sto 4 (.t 4) (.t 75))),(4,nP (.sto 7 (.t 5) (.t 76))),(5,mV 6 77)]) .ret))) .skip)))))) (.reg [mV 19 7,oP 20 (.bin .add (.t 19) (.c (.int .i64 1))),mV 7 20])))))) (sR [lA 78 4 2,oP 79 (.build [i0,i0,i0,i0,i0,i0,s0] []),nP (.sto 4 (.t 4) (.t 78)),nP (.sto 7 (.t 5) (.t 79)),oP 6 (.mv (.c (.bool false)))] .ret))
theorem dg176:Dg Tryz.prog 176 Tryz.f176 ic176 [(.cell 4 4 true),(.cell 5 7 true),(.t 6)]:=⟨Tryz.func176,by kernel_rfl,by kernel_rfl⟩
theorem x176 {X:List (E×E)} (w:M.World) (p:Pk) (hw:WX X w) (hp:PkP p):FnP Tryz.prog G 176 0 [.arr 47 10 (w.convs.map Conv.row),.arr 88 3 (w.door.map.map Pair.row),.arr 181 8 (w.door.flows.map Flw.row),.arr 70 7 (w.nets.map Pk.row)] [.agg [.own 0 w.convs.length,.own 1 w.door.map.length,.own 2 w.door.flows.length,.own 3 w.nets.length],.agg [.int .i64 p.kind,.int .i64 p.frm.a,.int .i64 p.frm.p,.int .i64 p.to.a,.int .i64 p.to.p,.int .i64 p.at_,.str p.text]] (passA (hostR w p)):=by
 refine mP dg176 Tryz.ntmps176 ⟨_,_,rfl,rfl⟩ ?_
 have hml:=(mapOk_ports (doorOk_iff.1 hw.door).1).2
 have hcl:=hw.cl
 simp only[ic176,go_sem]
 refine loopN (fun k:Nat=>⟨getL [(2,.pv 1002 0),(3,.pv 1003 0),(4,.pv 1004 0),(5,.pv 1005 0),(7,.int .i64 (k:Int))],getH [(1002,.var 41 [.own 0 w.convs.length,.own 1 w.door.map.length,.own 2 w.door.flows.length,.own 3 w.nets.length]),(1003,.var 70 [.int .i64 p.kind,.int .i64 p.frm.a,.int .i64 p.frm.p,.int .i64 p.to.a,.int .i64 p.to.p,.int .i64 p.at_,.str p.text]),(1004,.var 41 [.nils,.nils,.nils,.nils]),(1005,.var 70 [.int .i64 0,.int .i64 0,.int .i64 0,.int .i64 0,.int .i64 0,.int .i64 0,.str []]),(0,.arr 47 10 (w.convs.map Conv.row)),(1,.arr 88 3 (w.door.map.map Pair.row)),(2,.arr 181 8 (w.door.flows.map Flw.row)),(3,.arr 70 7 (w.nets.map Pk.row))]⟩)
  (fun k=>w.convs.length - k) (fun k=>k≤w.convs.length∧(w.convs.take k).any (matchC w p)=false) 0 (leQ []) ⟨Nat.zero_le _,by simp⟩ ?_
 intro k ⟨hk,ha⟩
 simp only[go_sem]
 by_cases h:(k:Int)<w.convs.length
 ·have hil:k<w.convs.length:=by omega
  have hg:w.convs.getD k default=w.convs[k]:=by simp[List.getD,hil]
  have hat:=hostR_at (w:=w) (p:=p) hil ha
  have hstep:matchC w p w.convs[k]=false→(w.convs.take (k+1)).any (matchC w p)=false:=fun hm=>by
   rw[List.take_add_one,List.getElem?_eq_getElem hil]
   simp only[Option.toList_some,List.any_append,ha,List.any_cons,List.any_nil,Bool.or_false,Bool.false_or,hm]
  have hB:=convOk_B (hw.cv _ (List.getElem_mem hil))
  rw[matchC_e] at hat hstep
  simp only[eq_comm (a:=p.frm.p)] at hat hstep
  simp only[eq_true h,go_sem]
  generalize hc:w.convs[k]=c at *
  generalize hinw:(decide (p.to=c.ins)&&decide (p.frm=c.out))=inw at *
  have g1:=fun b=>c193 c b p hB hp
  have g2:=c144 w c.ins (by omega)
  with_reducible repeat' (first|refine br ?_ ?_<;>intro h e<;>(try simp only[e,go_sem,getD_mp hil,hg,hc,E.ext_iff'])<;>clear e|rw[i64w (by omega)]|refine sd ?_<;>try simp only[go_sem,getD_mp hil,hg,hc,E.ext_iff']|(first|refine cr (c110 ..) ?_|refine cf (g2 ..) [0,1,2,3] ?_|refine cr (g1 ..) ?_)<;>try simp only[go_sem,getD_mp hil,hg,hc,E.ext_iff']|fail)
  all_goals clear g1 g2
  all_goals first
   | (refine⟨k+1,by omega,⟨by omega,hstep ?_⟩,(leQ [])⟩
      simp_all;done)
   | (have hh:=hat (by simp_all)
      have hi:inw=true:=by simp_all
      rw[hi] at hh
      refine passRet (w:={ w with convs:=w.convs.set k (hear c true p).1 }) (q:=(hear c true p).2) 0 1 2 3 hh ?_ ?_ ?_ ?_ ?_ ?_ ?_ ?_ ?_ (by decide)
      all_goals simp only[go_sem,List.map_set,List.length_set,getD_mp hil,hg]
      done)
   | (have hh:=hat (by simp_all)
      have hi:inw=false:=by simp_all
      rw[hi] at hh
      refine passRet (w:={ w with convs:=w.convs.set k (hear c false p).1 }) (q:=(hear c false p).2) 0 1 2 3 hh ?_ ?_ ?_ ?_ ?_ ?_ ?_ ?_ ?_ (by decide)
      all_goals simp only[go_sem,List.map_set,List.length_set,getD_mp hil,hg]
      done)
 ·simp only[eq_false h,go_sem]
  have:k=w.convs.length:=by omega
  subst this
  rw[List.take_length] at ha
  rw[hostR_no ha]
  refine passRet (q:=none) 0 1 2 3 rfl ?_ ?_ ?_ ?_ ?_ ?_ ?_ ?_ ?_ (by decide)<;>simp only[go_sem,Option.isSome_none,Option.getD_none,Pk.zero,E.zero]
def ic145:IC:=sR [oP 2 (.box 41 (.t 0)),oP 3 (.box 70 (.t 1)),oP 4 (.alloc 41 [.nils,.nils,.nils,.nils]),oP 5 (.alloc 70 [i0,i0,i0,i0,i0,i0,s0]),oP 6 (.mv (.c (.bool false)))] (.seq (sR [fD 10 3 3,lA 11 2 10,oP 12 (.call 110 [.t 11]),mV 13 12,⟨some 14,some (13,false),.fad 1 (.t 3)⟩,⟨some 15,some (13,false),.ld 2 true (.t 14)⟩,⟨some 16,some (13,false),.call 94 [.t 15]⟩,oP 17 (.pick (.t 13) (.c (.bool true)) (.t 16))] (.cond (.t 17) (sR [fD 19 1 2,lA 20 2 19,lA 21 7 3,oP 22 (.call 175 [.t 20,.t 21]),mV 18 22,eX 23 18 0,eX 24 18 1,eX 25 18 2,oP 7 (.alloc 38 [.nils,.nils]),oP 8 (.alloc 70 [i0,i0,i0,i0,i0,i0,s0]),nP (.sto 2 (.t 7) (.t 23)),nP (.sto 7 (.t 8) (.t 24)),mV 9 25] (sR [lA 26 2 7,fD 27 1 2,nP (.sto 2 (.t 27) (.t 26))] (.seq (.drw [0,0,0,1,11,31] [(0,lA 28 4 2),(1,lA 29 7 8),(2,mV 30 9),(3,nP (.sto 4 (.t 4) (.t 28))),(4,nP (.sto 7 (.t 5) (.t 29))),(5,mV 6 30)]) .ret))) .skip)) (sR [lA 31 4 2,lA 32 7 3,oP 33 (.call 176 [.t 31,.t 32]),eX 34 33 0,eX 35 33 1,eX 36 33 2,nP (.sto 4 (.t 4) (.t 34)),nP (.sto 7 (.t 5) (.t 35)),mV 6 36] .ret))
theorem dg145:Dg Tryz.prog 145 Tryz.f145 ic145 [(.cell 4 4 true),(.cell 5 7 true),(.t 6)]:=⟨Tryz.func145,by kernel_rfl,by kernel_rfl⟩
theorem x145 {X:List (E×E)} (w:M.World) (p:Pk) (hw:WX X w) (hp:PkP p):FnP Tryz.prog G 145 0 [.arr 47 10 (w.convs.map Conv.row),.arr 88 3 (w.door.map.map Pair.row),.arr 181 8 (w.door.flows.map Flw.row),.arr 70 7 (w.nets.map Pk.row)] [.agg [.own 0 w.convs.length,.own 1 w.door.map.length,.own 2 w.door.flows.length,.own 3 w.nets.length],.agg [.int .i64 p.kind,.int .i64 p.frm.a,.int .i64 p.frm.p,.int .i64 p.to.a,.int .i64 p.to.p,.int .i64 p.at_,.str p.text]] (passA (carry w p)):=by
 refine mP dg145 Tryz.ntmps145 ⟨_,_,rfl,rfl⟩ ?_
 have hdoor:(p.to.door=true∨p.frm.inside=true)→carry w p=({ w with door:=(dPass w.door p).1 },(dPass w.door p).2):=fun h=>carry_door (by simpa using h)
 have hhost:p.to.door=false→p.frm.inside=false→carry w p=hostR w p:=fun h1 h2=>carry_host (by simp[h1,h2])
 simp only[ic145,go_sem]
 with_reducible repeat' (first|refine br ?_ ?_<;>intro h e<;>(try simp only[e,go_sem])<;>clear e|rw[i64w (by omega)]|refine sd ?_<;>try simp only[go_sem]|(first|refine cr (c110 ..) ?_|refine cr (c94 ..) ?_)<;>try simp only[go_sem]|fail)
 ·refine callU (c175 w.door p hw.door hw.flows3 hp) [1,2] [] 22 2 (by simp only[go_sem];first|done|simp) (by simp only[go_sem];first|done|simp) (by simp) (by simp) (by rintro _ _ ⟨rfl,rfl⟩;simp) (by intro i hi;rcases(show i=0∨i=1 by omega) with rfl|rfl<;>simp only[go_sem]) ?_
  rintro _ _ ⟨rfl,rfl⟩
  simp only[go_sem]
  with_reducible repeat' (first|refine br ?_ ?_<;>intro h e<;>(try simp only[e,go_sem])<;>clear e|rw[i64w (by omega)]|refine sd ?_<;>try simp only[go_sem]|fail)
  refine passRet (w:={ w with door:=(dPass w.door p).1 }) (q:=(dPass w.door p).2) 0 102200 102201 3 (hdoor (.inl (by assumption))) ?_ ?_ ?_ ?_ ?_ ?_ ?_ ?_ ?_ (by decide)<;>simp only[go_sem]
 ·refine callU (c175 w.door p hw.door hw.flows3 hp) [1,2] [] 22 2 (by simp only[go_sem];first|done|simp) (by simp only[go_sem];first|done|simp) (by simp) (by simp) (by rintro _ _ ⟨rfl,rfl⟩;simp) (by intro i hi;rcases(show i=0∨i=1 by omega) with rfl|rfl<;>simp only[go_sem]) ?_
  rintro _ _ ⟨rfl,rfl⟩
  simp only[go_sem]
  with_reducible repeat' (first|refine br ?_ ?_<;>intro h e<;>(try simp only[e,go_sem])<;>clear e|rw[i64w (by omega)]|refine sd ?_<;>try simp only[go_sem]|fail)
  refine passRet (w:={ w with door:=(dPass w.door p).1 }) (q:=(dPass w.door p).2) 0 102200 102201 3 (hdoor (.inr (by assumption))) ?_ ?_ ?_ ?_ ?_ ?_ ?_ ?_ ?_ (by decide)<;>simp only[go_sem]
 ·refine callU (x176 w p hw hp) [0,1,2,3] [] 33 4 (by simp only[go_sem];first|done|simp) (by simp only[go_sem];first|done|simp) (by simp) (by simp) (by rintro _ _ ⟨rfl,rfl⟩;simp) (by intro i hi;rcases(show i=0∨i=1∨i=2∨i=3 by omega) with rfl|rfl|rfl|rfl<;>simp only[go_sem]) ?_
  rintro _ _ ⟨rfl,rfl⟩
  simp only[go_sem]
  with_reducible repeat' (first|refine br ?_ ?_<;>intro h e<;>(try simp only[e,go_sem])<;>clear e|rw[i64w (by omega)]|refine sd ?_<;>try simp only[go_sem]|fail)
  refine passRet (w:=(hostR w p).1) (q:=(hostR w p).2) 103300 103301 103302 103303 (hhost (by assumption) (by assumption)) ?_ ?_ ?_ ?_ ?_ ?_ ?_ ?_ ?_ (by decide)<;>simp only[go_sem]
theorem PkP.ofNet {X:List (E×E)} {w:M.World} (h:WX X w) {k:Nat} {p:Pk} (hp:w.nets[k]?=some p):PkP p:=(h.net p (List.mem_of_getElem? hp)).pk
def netR (w:M.World) (k a:Int):M.World :=
 if within a 0 ((w.nets.length:Int) - 1) then
  if k=5 then send w w.nets[a.toNat]?
  else if k=4 then { w with nets:=w.nets.eraseIdx a.toNat }
  else match w.nets[a.toNat]? with
   | some p=>send (carry { w with nets:=w.nets.eraseIdx a.toNat } p).1 (carry { w with nets:=w.nets.eraseIdx a.toNat } p).2
   | none=>w
 else w
theorem netR_is (w:M.World) (e:Ev) (h:e.kind=3∨e.kind=4∨e.kind=5):wDo w e=netR w e.kind e.a:=by
 unfold wDo netR
 rcases h with h|h|h<;>simp only[h]<;>simp<;>rfl
def rowV (sz c o n:Nat):Hs→Option (List (List V)×List Nat)
 | .arr _ s rows=>if s=sz then guardP (o+n≤rows.length) (some ((rows.drop o).take n,[c])) else none
 | _=>none
theorem rowO_view (h:Nat→Hs) (sz c o n):rowO h sz (.view c o n)=rowV sz c o n (h c):=by simp only[rowO,rowsF,rowV];cases h c<;>rfl
theorem rowV_a {sz c o n ty rows} (hl:o+n≤rows.length):rowV sz c o n (.arr ty sz rows)=some ((rows.drop o).take n,[c]):=by
 simp[rowV,guardP,hl]
def ic107:IC:=sR [oP 2 (.box 41 (.t 0)),oP 3 (.box 83 (.t 1)),oP 4 (.alloc 41 [.nils,.nils,.nils,.nils])] (.seq (sR [fD 9 1 3,lD 10 1 9,fD 11 3 2,lD 12 1 11,oP 13 (.len (.t 12)),oP 14 (.bin .sub (.t 13) (.c (.int .i64 1))),oP 15 (.call 100 [.t 10,.c i0,.t 14]),oP 16 (.un .not (.t 15))] (.cond (.t 16) (sR [lA 17 4 2,nP (.sto 4 (.t 4) (.t 17))] .ret) .skip)) (sR [fD 18 3 2,lD 19 1 18,fD 20 1 3,lD 21 1 20,oP 22 (.iad 7 (.t 19) (.t 21)),lA 23 7 22,oP 5 (.alloc 70 [i0,i0,i0,i0,i0,i0,s0]),nP (.sto 7 (.t 5) (.t 23))] (.seq (sR [fD 24 0 3,lD 25 1 24,oP 26 (.bin .eql (.t 25) (.c (.int .i64 5)))] (.cond (.t 26) (sR [lA 27 4 2,lA 28 7 5,oP 29 (.call 106 [.t 27,.t 28,.c (.bool true)]),nP (.sto 4 (.t 4) (.t 29))] .ret) .skip)) (.seq (.drw [0,0,2,0,8,30,63,0,128,0,512,1536,3968,8191,16383,32767] [(0,oP 30 (.bsl 70 7 [])),(1,fD 31 3 2),(2,lD 32 1 31),(3,fD 33 1 3),(4,lD 34 1 33),(5,oP 35 (.slv 7 (.t 32) none (some (.t 34)))),(6,oP 36 (.app 70 7 (.t 30) (.t 35))),(7,fD 37 3 2),(8,lD 38 1 37),(9,fD 39 1 3),(10,lD 40 1 39),(11,oP 41 (.bin .add (.t 40) (.c (.int .i64 1)))),(12,oP 42 (.slv 7 (.t 38) (some (.t 41)) none)),(13,oP 43 (.app 70 7 (.t 36) (.t 42))),(14,fD 44 3 2),(15,nP (.sto 1 (.t 44) (.t 43)))]) (.seq (sR [fD 45 0 3,lD 46 1 45,oP 47 (.bin .eql (.t 46) (.c (.int .i64 4)))] (.cond (.t 47) (sR [lA 48 4 2,nP (.sto 4 (.t 4) (.t 48))] .ret) .skip)) (sR [lA 50 4 2,lA 51 7 5,oP 52 (.call 145 [.t 50,.t 51]),mV 49 52,eX 53 49 0,eX 54 49 1,eX 55 49 2,oP 6 (.alloc 41 [.nils,.nils,.nils,.nils]),oP 7 (.alloc 70 [i0,i0,i0,i0,i0,i0,s0]),nP (.sto 4 (.t 6) (.t 53)),nP (.sto 7 (.t 7) (.t 54)),mV 8 55] (sR [lA 56 4 6,lA 57 7 7,mV 58 8,oP 59 (.call 106 [.t 56,.t 57,.t 58]),nP (.sto 4 (.t 4) (.t 59))] .ret)))))))
theorem dg107:Dg Tryz.prog 107 Tryz.f107 ic107 [(.cell 4 4 true)]:=⟨Tryz.func107,by kernel_rfl,by kernel_rfl⟩
theorem x107 {X:List (E×E)} (w:M.World) (e:Ev) (hw:WX X w):FnP Tryz.prog G 107 0 [.arr 47 10 (w.convs.map Conv.row),.arr 88 3 (w.door.map.map Pair.row),.arr 181 8 (w.door.flows.map Flw.row),.arr 70 7 (w.nets.map Pk.row)] [.agg [.own 0 w.convs.length,.own 1 w.door.map.length,.own 2 w.door.flows.length,.own 3 w.nets.length],.agg [.int .i64 e.kind,.int .i64 e.a,.int .i64 e.b,.int .i64 e.c,.int .i64 e.pkt.kind,.int .i64 e.pkt.frm.a,.int .i64 e.pkt.frm.p,.int .i64 e.pkt.to.a,.int .i64 e.pkt.to.p,.int .i64 e.pkt.at_,.str e.pkt.text]] (worldA (netR w e.kind e.a)):=by
 refine mP dg107 Tryz.ntmps107 ⟨_,_,rfl,rfl⟩ ?_
 have hnl:=hw.nl
 simp only[ic107,go_sem]
 rw[i64w (by omega)]
 generalize hwi:within e.a 0 ((w.nets.length:Int) - 1)=b
 have hw2:b=true→0≤e.a∧e.a≤(w.nets.length:Int) - 1:=fun h=>M.within_iff.1 (hwi.trans h)
 refine callR (c100 e.a 0 ((w.nets.length:Int) - 1)) rfl rfl ?_
 rw[hwi]
 cases b<;>simp only[go_sem]
 ·have hx:netR w e.kind e.a=w:=by simp[netR,hwi]
  rw[hx]
  exact worldRet (c:=1004) 0 1 2 3 (by simp only[go_sem]) (by simp only[go_sem]) (by simp only[go_sem]) (by simp only[go_sem]) (by simp only[go_sem]) (by simp only[go_sem]) (by decide)
 have hw2:=hw2 rfl
 have hil:e.a.toNat<w.nets.length:=by omega
 have hg:w.nets.getD e.a.toNat default=w.nets[e.a.toNat]:=by simp[List.getD,hil]
 have hg2:w.nets[e.a.toNat]?=some w.nets[e.a.toNat]:=List.getElem?_eq_getElem hil
 have hx5:e.kind=5→netR w e.kind e.a=send w (some w.nets[e.a.toNat]):=fun h=>by simp only[netR,hwi,if_true];rw[if_pos h,hg2]
 have hx4:e.kind=4→netR w e.kind e.a={ w with nets:=w.nets.eraseIdx e.a.toNat }:=fun h=>by simp only[netR,hwi,if_true];rw[if_neg (by omega),if_pos h]
 have hx3:e.kind≠5→e.kind≠4→netR w e.kind e.a=send (carry { w with nets:=w.nets.eraseIdx e.a.toNat } w.nets[e.a.toNat]).1 (carry { w with nets:=w.nets.eraseIdx e.a.toNat } w.nets[e.a.toNat]).2:=fun h h'=>by simp only[netR,hwi,if_true];rw[if_neg h,if_neg h',hg2]
 have hpk:=PkP.ofNet hw hg2
 have hwe:=hw.erase e.a.toNat
 have herase:w.nets.eraseIdx e.a.toNat=w.nets.take e.a.toNat++w.nets.drop (e.a.toNat+1):=List.eraseIdx_eq_take_drop_succ _ _
 generalize hp:w.nets[e.a.toNat]=p at *
 have rv1:rowV 7 3 0 (e.a.toNat - 0) (.arr 70 7 (w.nets.map Pk.row))=some ((w.nets.take e.a.toNat).map Pk.row,[3]):=by
  rw[rowV_a (by simp;omega)];simp[List.map_take]
 have rv2:rowV 7 3 (e.a+1).toNat (w.nets.length - (e.a+1).toNat) (.arr 70 7 (w.nets.map Pk.row))=some ((w.nets.drop (e.a.toNat+1)).map Pk.row,[3]):=by
  rw[rowV_a (by simp;omega)]
  have:(e.a+1).toNat=e.a.toNat+1:=by omega
  rw[this,←List.map_drop,←List.map_take,List.take_of_length_le (by simp)]
 with_reducible repeat' (first|refine br ?_ ?_<;>intro h e<;>(try simp only[e,go_sem,getD_mp hil,hg,hp,rowO_view,rv1,rv2,List.length_take,List.length_drop])<;>clear e|rw[i64w (by omega)]|refine sd ?_<;>try simp only[go_sem,getD_mp hil,hg,hp,rowO_view,rv1,rv2,List.length_take,List.length_drop]|fail)
 ·have c5:=c106 w p true (by omega)
  simp only[cond_true] at c5
  rw[hx5 h]
  refine callU c5 [0,1,2,3] [] 29 4 (by simp only[go_sem];first|done|simp) (by simp only[go_sem];first|done|simp) (by simp) (by simp) (by rintro _ _ ⟨rfl,rfl⟩;simp) (by intro i hi;rcases(show i=0∨i=1∨i=2∨i=3 by omega) with rfl|rfl|rfl|rfl<;>simp only[go_sem]) ?_
  rintro _ _ ⟨rfl,rfl⟩
  simp only[go_sem]
  with_reducible repeat' (first|refine br ?_ ?_<;>intro h e<;>(try simp only[e,go_sem])<;>clear e|rw[i64w (by omega)]|refine sd ?_<;>try simp only[go_sem]|fail)
  exact worldRet (c:=1004) 102900 102901 102902 102903 (by simp only[go_sem]) (by simp only[go_sem]) (by simp only[go_sem]) (by simp only[go_sem]) (by simp only[go_sem]) (by simp only[go_sem]) (by decide)
 ·have hlen:min e.a.toNat w.nets.length+(w.nets.length - (e.a.toNat+1))=(w.nets.eraseIdx e.a.toNat).length:=by rw[herase];simp
  have hrows:(w.nets.take e.a.toNat).map Pk.row++(w.nets.drop (e.a.toNat+1)).map Pk.row=(w.nets.eraseIdx e.a.toNat).map Pk.row:=by rw[herase,List.map_append]
  simp only[hlen,hrows]
  rw[hx4 h]
  exact worldRet (c:=1004) 0 1 2 1043 (by simp only[go_sem]) (by simp only[go_sem]) (by simp only[go_sem]) (by simp only[go_sem]) (by simp only[go_sem]) (by simp only[go_sem]) (by decide)
 ·have hlen:min e.a.toNat w.nets.length+(w.nets.length - (e.a.toNat+1))=(w.nets.eraseIdx e.a.toNat).length:=by rw[herase];simp
  have hrows:(w.nets.take e.a.toNat).map Pk.row++(w.nets.drop (e.a.toNat+1)).map Pk.row=(w.nets.eraseIdx e.a.toNat).map Pk.row:=by rw[herase,List.map_append]
  simp only[hlen,hrows]
  rw[hx3 (by assumption) (by assumption)]
  have hk:=(carry_X hwe ⟨hpk,fun hin=>(hw.net p (List.mem_of_getElem? hg2)).c hin⟩).1
  refine callU (x145 { w with nets:=w.nets.eraseIdx e.a.toNat } p hwe hpk) [0,1,2,1043] [] 52 4 (by simp only[go_sem];first|done|simp) (by simp only[go_sem];first|done|simp) (by simp) (by simp) (by rintro _ _ ⟨rfl,rfl⟩;simp) (by intro i hi;rcases(show i=0∨i=1∨i=2∨i=3 by omega) with rfl|rfl|rfl|rfl<;>simp only[go_sem]) ?_
  rintro _ _ ⟨rfl,rfl⟩
  simp only[go_sem]
  with_reducible repeat' (first|refine br ?_ ?_<;>intro h e<;>(try simp only[e,go_sem])<;>clear e|rw[i64w (by omega)]|refine sd ?_<;>try simp only[go_sem]|fail)
  generalize carry { w with nets:=w.nets.eraseIdx e.a.toNat } p=r at *
  obtain⟨v,o⟩:=r
  simp only at hk
  have hvn:=hk.nl
  simp only[go_sem]
  with_reducible repeat' (first|refine br ?_ ?_<;>intro h e<;>(try simp only[e,go_sem])<;>clear e|rw[i64w (by omega)]|refine sd ?_<;>try simp only[go_sem]|fail)
  refine callU (c106 v (o.getD .zero) o.isSome (by omega)) [105200,105201,105202,105203] [] 59 4 (by simp only[go_sem];first|done|simp) (by simp only[go_sem];first|done|simp) (by simp) (by simp) (by rintro _ _ ⟨rfl,rfl⟩;simp) (by intro i hi;rcases(show i=0∨i=1∨i=2∨i=3 by omega) with rfl|rfl|rfl|rfl<;>simp only[go_sem]) ?_
  rw[opt_b]
  rintro _ _ ⟨rfl,rfl⟩
  simp only[go_sem]
  with_reducible repeat' (first|refine br ?_ ?_<;>intro h e<;>(try simp only[e,go_sem])<;>clear e|rw[i64w (by omega)]|refine sd ?_<;>try simp only[go_sem]|fail)
  exact worldRet (c:=1004) 105900 105901 105902 105903 (by simp only[go_sem]) (by simp only[go_sem]) (by simp only[go_sem]) (by simp only[go_sem]) (by simp only[go_sem]) (by simp only[go_sem]) (by decide)
def ic59:IC:=sR [oP 2 (.box 41 (.t 0)),oP 3 (.box 83 (.t 1)),oP 4 (.alloc 41 [.nils,.nils,.nils,.nils])] (.seq (sR [fD 7 0 3,lD 8 1 7] (.block 0 (.seq (sR [oP 10 (.bin .eql (.t 8) (.c (.int .i64 1))),mV 9 10] (.cond (.t 9) .skip (.reg [oP 11 (.bin .eql (.t 8) (.c (.int .i64 2))),mV 9 11]))) (.cond (.t 9) (sR [lA 13 4 2,lA 14 11 3,oP 15 (.call 105 [.t 13,.t 14]),mV 12 15,eX 16 12 0,eX 17 12 1,oP 5 (.alloc 70 [i0,i0,i0,i0,i0,i0,s0]),nP (.sto 7 (.t 5) (.t 16)),mV 6 17] (sR [lA 18 4 2,lA 19 7 5,mV 20 6,oP 21 (.call 106 [.t 18,.t 19,.t 20]),nP (.sto 4 (.t 4) (.t 21))] .ret)) (.seq (sR [oP 23 (.bin .eql (.t 8) (.c (.int .i64 3))),mV 22 23] (.cond (.t 22) .skip (sR [oP 24 (.bin .eql (.t 8) (.c (.int .i64 4))),mV 22 24] (.cond (.t 22) .skip (.reg [oP 25 (.bin .eql (.t 8) (.c (.int .i64 5))),mV 22 25]))))) (.cond (.t 22) (sR [lA 26 4 2,lA 27 11 3,oP 28 (.call 107 [.t 26,.t 27]),nP (.sto 4 (.t 4) (.t 28))] .ret) (sR [oP 30 (.bin .eql (.t 8) (.c (.int .i64 6))),mV 29 30] (.cond (.t 29) (.seq (.drw [0,0,2,0,0,16,56,127,255] [(0,lA 31 4 2),(1,fD 32 4 3),(2,lA 33 7 32),(3,lA 34 4 2),(4,fD 35 4 3),(5,lA 36 7 35),(6,oP 37 (.call 108 [.t 34,.t 36])),(7,oP 38 (.call 106 [.t 31,.t 33,.t 37])),(8,nP (.sto 4 (.t 4) (.t 38)))]) .ret) .skip)))))))) (sR [lA 39 4 2,nP (.sto 4 (.t 4) (.t 39))] .ret))
theorem dg59:Dg Tryz.prog 59 Tryz.f59 ic59 [(.cell 4 4 true)]:=⟨Tryz.func59,by kernel_rfl,by kernel_rfl⟩
theorem x59 {X:List (E×E)} (w:M.World) (e:Ev) (hw:WX X w) (ht:e.pkt.text.length≤2000000):FnP Tryz.prog G 59 0 [.arr 47 10 (w.convs.map Conv.row),.arr 88 3 (w.door.map.map Pair.row),.arr 181 8 (w.door.flows.map Flw.row),.arr 70 7 (w.nets.map Pk.row)] [.agg [.own 0 w.convs.length,.own 1 w.door.map.length,.own 2 w.door.flows.length,.own 3 w.nets.length],.agg [.int .i64 e.kind,.int .i64 e.a,.int .i64 e.b,.int .i64 e.c,.int .i64 e.pkt.kind,.int .i64 e.pkt.frm.a,.int .i64 e.pkt.frm.p,.int .i64 e.pkt.to.a,.int .i64 e.pkt.to.p,.int .i64 e.pkt.at_,.str e.pkt.text]] (worldA (wDo w e)):=by
 refine mP dg59 Tryz.ntmps59 ⟨_,_,rfl,rfl⟩ ?_
 have hnl:=hw.nl
 have hcl:=hw.cl
 have hml:=(mapOk_ports (doorOk_iff.1 hw.door).1).2
 have hB:∀c∈w.convs,c.up.length≤2000000∧c.down.length≤2000000:=fun c hc=>by
  have hb:=convOk_B (hw.cv c hc)
  have h1:=hb.up
  have h2:=hb.down
  omega
 simp only[ic59,go_sem]
 with_reducible repeat' (first|refine br ?_ ?_<;>intro h e<;>(try simp only[e,go_sem])<;>clear e|rw[i64w (by omega)]|refine sd ?_<;>try simp only[go_sem]|fail)
 ·refine callF (c105 w e (by omega) (by omega) hB) [0,1,2,3] false (by simp only[go_sem];first|done|simp[E.row,Pc.row,Pair.row,Part.row,Flw.row,Pk.row,Conv.row]) (by simp only[List.mem_cons,List.not_mem_nil,or_false];rintro c (rfl|rfl|rfl|rfl)<;>simp only[go_sem]) rfl (.inr rfl) ?_
  have hx:wDo w e=send w (sayW w (decide (e.kind=1)) e.a e.b e.c):=by simp[wDo,h]
  rw[hx]
  generalize sayW w (decide (e.kind=1)) e.a e.b e.c=o
  simp only[go_sem]
  with_reducible repeat' (first|refine br ?_ ?_<;>intro h e<;>(try simp only[e,go_sem])<;>clear e|rw[i64w (by omega)]|refine sd ?_<;>try simp only[go_sem]|fail)
  refine callU (c106 w (o.getD .zero) o.isSome (by omega)) [0,1,2,3] [] 21 4 (by simp only[go_sem];first|done|simp) (by simp only[go_sem];first|done|simp) (by simp) (by simp) (by rintro _ _ ⟨rfl,rfl⟩;simp) (by intro i hi;rcases(show i=0∨i=1∨i=2∨i=3 by omega) with rfl|rfl|rfl|rfl<;>simp only[go_sem]) ?_
  rw[opt_b]
  rintro _ _ ⟨rfl,rfl⟩
  simp only[go_sem]
  with_reducible repeat' (first|refine br ?_ ?_<;>intro h e<;>(try simp only[e,go_sem])<;>clear e|rw[i64w (by omega)]|refine sd ?_<;>try simp only[go_sem]|fail)
  exact worldRet (c:=1004) 102100 102101 102102 102103 (by simp only[go_sem]) (by simp only[go_sem]) (by simp only[go_sem]) (by simp only[go_sem]) (by simp only[go_sem]) (by simp only[go_sem]) (by decide)
 ·refine callF (c105 w e (by omega) (by omega) hB) [0,1,2,3] false (by simp only[go_sem];first|done|simp[E.row,Pc.row,Pair.row,Part.row,Flw.row,Pk.row,Conv.row]) (by simp only[List.mem_cons,List.not_mem_nil,or_false];rintro c (rfl|rfl|rfl|rfl)<;>simp only[go_sem]) rfl (.inr rfl) ?_
  have hx:wDo w e=send w (sayW w (decide (e.kind=1)) e.a e.b e.c):=by simp[wDo,h]
  rw[hx]
  generalize sayW w (decide (e.kind=1)) e.a e.b e.c=o
  simp only[go_sem]
  with_reducible repeat' (first|refine br ?_ ?_<;>intro h e<;>(try simp only[e,go_sem])<;>clear e|rw[i64w (by omega)]|refine sd ?_<;>try simp only[go_sem]|fail)
  refine callU (c106 w (o.getD .zero) o.isSome (by omega)) [0,1,2,3] [] 21 4 (by simp only[go_sem];first|done|simp) (by simp only[go_sem];first|done|simp) (by simp) (by simp) (by rintro _ _ ⟨rfl,rfl⟩;simp) (by intro i hi;rcases(show i=0∨i=1∨i=2∨i=3 by omega) with rfl|rfl|rfl|rfl<;>simp only[go_sem]) ?_
  rw[opt_b]
  rintro _ _ ⟨rfl,rfl⟩
  simp only[go_sem]
  with_reducible repeat' (first|refine br ?_ ?_<;>intro h e<;>(try simp only[e,go_sem])<;>clear e|rw[i64w (by omega)]|refine sd ?_<;>try simp only[go_sem]|fail)
  exact worldRet (c:=1004) 102100 102101 102102 102103 (by simp only[go_sem]) (by simp only[go_sem]) (by simp only[go_sem]) (by simp only[go_sem]) (by simp only[go_sem]) (by simp only[go_sem]) (by decide)
 ·rw[netR_is w e (.inl h)]
  refine callU (x107 w e hw) [0,1,2,3] [] 28 4 (by simp only[go_sem];first|done|simp) (by simp only[go_sem];first|done|simp) (by simp) (by simp) (by rintro _ _ ⟨rfl,rfl⟩;simp) (by intro i hi;rcases(show i=0∨i=1∨i=2∨i=3 by omega) with rfl|rfl|rfl|rfl<;>simp only[go_sem]) ?_
  rintro _ _ ⟨rfl,rfl⟩
  simp only[go_sem]
  with_reducible repeat' (first|refine br ?_ ?_<;>intro h e<;>(try simp only[e,go_sem])<;>clear e|rw[i64w (by omega)]|refine sd ?_<;>try simp only[go_sem]|fail)
  exact worldRet (c:=1004) 102800 102801 102802 102803 (by simp only[go_sem]) (by simp only[go_sem]) (by simp only[go_sem]) (by simp only[go_sem]) (by simp only[go_sem]) (by simp only[go_sem]) (by decide)
 ·rw[netR_is w e (.inr (.inl h))]
  refine callU (x107 w e hw) [0,1,2,3] [] 28 4 (by simp only[go_sem];first|done|simp) (by simp only[go_sem];first|done|simp) (by simp) (by simp) (by rintro _ _ ⟨rfl,rfl⟩;simp) (by intro i hi;rcases(show i=0∨i=1∨i=2∨i=3 by omega) with rfl|rfl|rfl|rfl<;>simp only[go_sem]) ?_
  rintro _ _ ⟨rfl,rfl⟩
  simp only[go_sem]
  with_reducible repeat' (first|refine br ?_ ?_<;>intro h e<;>(try simp only[e,go_sem])<;>clear e|rw[i64w (by omega)]|refine sd ?_<;>try simp only[go_sem]|fail)
  exact worldRet (c:=1004) 102800 102801 102802 102803 (by simp only[go_sem]) (by simp only[go_sem]) (by simp only[go_sem]) (by simp only[go_sem]) (by simp only[go_sem]) (by simp only[go_sem]) (by decide)
 ·rw[netR_is w e (.inr (.inr h))]
  refine callU (x107 w e hw) [0,1,2,3] [] 28 4 (by simp only[go_sem];first|done|simp) (by simp only[go_sem];first|done|simp) (by simp) (by simp) (by rintro _ _ ⟨rfl,rfl⟩;simp) (by intro i hi;rcases(show i=0∨i=1∨i=2∨i=3 by omega) with rfl|rfl|rfl|rfl<;>simp only[go_sem]) ?_
  rintro _ _ ⟨rfl,rfl⟩
  simp only[go_sem]
  with_reducible repeat' (first|refine br ?_ ?_<;>intro h e<;>(try simp only[e,go_sem])<;>clear e|rw[i64w (by omega)]|refine sd ?_<;>try simp only[go_sem]|fail)
  exact worldRet (c:=1004) 102800 102801 102802 102803 (by simp only[go_sem]) (by simp only[go_sem]) (by simp only[go_sem]) (by simp only[go_sem]) (by simp only[go_sem]) (by simp only[go_sem]) (by decide)
 ·have hx:wDo w e=send w (bif stranger w e.pkt then some e.pkt else none):=by
   simp only[wDo,h]
   cases stranger w e.pkt<;>simp[send]
  rw[hx]
  refine callF (c108 w e.pkt (by omega) ht) [0,1,2,3] false (by simp only[go_sem];first|done|simp[E.row,Pc.row,Pair.row,Part.row,Flw.row,Pk.row,Conv.row]) (by simp only[List.mem_cons,List.not_mem_nil,or_false];rintro c (rfl|rfl|rfl|rfl)<;>simp only[go_sem]) rfl (.inr rfl) ?_
  generalize stranger w e.pkt=o
  simp only[go_sem]
  with_reducible repeat' (first|refine br ?_ ?_<;>intro h e<;>(try simp only[e,go_sem])<;>clear e|rw[i64w (by omega)]|refine sd ?_<;>try simp only[go_sem]|fail)
  refine callU (c106 w e.pkt o (by omega)) [0,1,2,3] [] 38 4 (by simp only[go_sem];first|done|simp) (by simp only[go_sem];first|done|simp) (by simp) (by simp) (by rintro _ _ ⟨rfl,rfl⟩;simp) (by intro i hi;rcases(show i=0∨i=1∨i=2∨i=3 by omega) with rfl|rfl|rfl|rfl<;>simp only[go_sem]) ?_
  rintro _ _ ⟨rfl,rfl⟩
  simp only[go_sem]
  with_reducible repeat' (first|refine br ?_ ?_<;>intro h e<;>(try simp only[e,go_sem])<;>clear e|rw[i64w (by omega)]|refine sd ?_<;>try simp only[go_sem]|fail)
  exact worldRet (c:=1004) 103800 103801 103802 103803 (by simp only[go_sem]) (by simp only[go_sem]) (by simp only[go_sem]) (by simp only[go_sem]) (by simp only[go_sem]) (by simp only[go_sem]) (by decide)
 ·have hx:wDo w e=w:=by simp only[wDo];simp[*]
  rw[hx]
  exact worldRet (c:=1004) 0 1 2 3 (by simp only[go_sem]) (by simp only[go_sem]) (by simp only[go_sem]) (by simp only[go_sem]) (by simp only[go_sem]) (by simp only[go_sem]) (by decide)
theorem c59 (w:M.World) (e:Ev) (hw:WI w) (ht:e.pkt.text.length≤2000000):FnP Tryz.prog G 59 0 [.arr 47 10 (w.convs.map Conv.row),.arr 88 3 (w.door.map.map Pair.row),.arr 181 8 (w.door.flows.map Flw.row),.arr 70 7 (w.nets.map Pk.row)] [.agg [.own 0 w.convs.length,.own 1 w.door.map.length,.own 2 w.door.flows.length,.own 3 w.nets.length],.agg [.int .i64 e.kind,.int .i64 e.a,.int .i64 e.b,.int .i64 e.c,.int .i64 e.pkt.kind,.int .i64 e.pkt.frm.a,.int .i64 e.pkt.frm.p,.int .i64 e.pkt.to.a,.int .i64 e.pkt.to.p,.int .i64 e.pkt.at_,.str e.pkt.text]] (worldA (wDo w e)) :=
 x59 w e hw.x ht
def ic55:IC:=sR [oP 2 (.mv (.c (.bool false)))] (.seq (sR [oP 3 (.mv (.c i0))] (.block 0 (.loop (.seq (sR [mV 5 3,mV 6 0,oP 7 (.len (.t 6)),bN 8 .lss 5 7] (.cond (.t 8) .skip (.exit 0))) (.seq (.block 1 (.seq (sR [oP 4 (.mv (.c i0))] (.block 2 (.loop (.seq (sR [mV 11 4,mV 12 3,bN 13 .lss 11 12] (.cond (.t 13) .skip (.exit 2))) (.seq (.block 3 (.seq (.drw [0,0,3,7,15,0,0,96,224,480,1023,2047,4095,4095,16383,32767,65535,4095,4095,397311,921599,1970175,4194303,8388607] [(0,mV 16 0),(1,mV 17 4),(2,oP 18 (.iad 10 (.t 16) (.t 17))),(3,fD 19 0 18),(4,lA 20 2 19),(5,mV 21 0),(6,mV 22 3),(7,oP 23 (.iad 10 (.t 21) (.t 22))),(8,fD 24 0 23),(9,lA 25 2 24),(10,oP 26 (.eqs false [.i,.i] (.t 20) (.t 25))),(11,mV 27 26),(12,⟨some 28,some (27,false),.mv (.t 0)⟩),(13,⟨some 29,some (27,false),.mv (.t 4)⟩),(14,⟨some 30,some (27,false),.iad 10 (.t 28) (.t 29)⟩),(15,⟨some 31,some (27,false),.fad 2 (.t 30)⟩),(16,⟨some 32,some (27,false),.ld 2 true (.t 31)⟩),(17,⟨some 33,some (27,false),.mv (.t 0)⟩),(18,⟨some 34,some (27,false),.mv (.t 3)⟩),(19,⟨some 35,some (27,false),.iad 10 (.t 33) (.t 34)⟩),(20,⟨some 36,some (27,false),.fad 2 (.t 35)⟩),(21,⟨some 37,some (27,false),.ld 2 true (.t 36)⟩),(22,⟨some 38,some (27,false),.eqs false [.i,.i] (.t 32) (.t 37)⟩),(23,oP 39 (.pick (.t 27) (.c (.bool true)) (.t 38)))]) (.cond (.t 39) (sR [oP 2 (.mv (.c (.bool false)))] .ret) .skip))) (.reg [mV 14 4,oP 15 (.bin .add (.t 14) (.c (.int .i64 1))),mV 4 15])))))) (sR [mV 40 0,mV 41 3,oP 42 (.iad 10 (.t 40) (.t 41)),lA 43 10 42,oP 44 (.call 98 [.t 43]),oP 45 (.un .not (.t 44))] (.cond (.t 45) (sR [oP 2 (.mv (.c (.bool false)))] .ret) .skip)))) (.reg [mV 9 3,oP 10 (.bin .add (.t 9) (.c (.int .i64 1))),mV 3 10])))))) (sR [mV 46 0,oP 47 (.len (.t 46)),oP 48 (.bin .leq (.t 47) (.c (.int .i64 2))),mV 2 48] .ret))
theorem dg55:Dg Tryz.prog 55 Tryz.f55 ic55 [(.t 2)]:=⟨Tryz.func55,by kernel_rfl,by kernel_rfl⟩
theorem c55 (cs:List Conv) (hl:cs.length≤2000000) (hB:∀c∈cs,(c.up.length≤2000000∧c.down.length≤2000000)∧c.upGot.length≤2000000∧c.downGot.length≤2000000):FnR Tryz.prog G 55 [.sl 10 (cs.map Conv.row)] (.bool (together cs)):=by
 refine mF dg55 Tryz.ntmps55 ?_
 simp only[ic55,go_sem]
 refine loopN (fun i:Nat=>⟨getL [(0,.sl 10 (cs.map Conv.row)),(3,.int .i64 (i:Int))],getH []⟩) (fun i=>cs.length - i) (fun i=>i≤cs.length∧∀j,j<i→okConv cs j=true) 0 (leQ []) ⟨Nat.zero_le _,by omega⟩ ?_
 intro i ⟨hi,ha⟩
 simp only[go_sem]
 by_cases h:(i:Int)<cs.length
 ·have hil:i<cs.length:=by omega
  have hg:cs.getD i default=cs[i]:=by simp[List.getD,hil]
  have hok:=okConv_i hil
  obtain⟨⟨b1,b2⟩,b3,b4⟩:=hB _ (List.getElem_mem hil)
  simp only[eq_true h,go_sem]
  refine loopN (fun k:Nat=>⟨getL [(0,.sl 10 (cs.map Conv.row)),(3,.int .i64 (i:Int)),(4,.int .i64 (k:Int))],getH []⟩) (fun k=>i - k) (fun k=>k≤i∧(cs.take k).any (fun o=>decide (o.ins=cs[i].ins)||decide (o.out=cs[i].out))=false) 0 (leQ []) ⟨Nat.zero_le _,by simp⟩ ?_
  intro k ⟨hk,hka⟩
  simp only[go_sem]
  by_cases h2:(k:Int)<i
  ·have hkl:k<cs.length:=by omega
   have hgk:cs.getD k default=cs[k]:=by simp[List.getD,hkl]
   simp only[eq_true h2,go_sem]
   have bad:(cs[k].ins=cs[i].ins∨cs[k].out=cs[i].out)→together cs=false:=fun hb=>okConv_b hil (by
    have:(cs.take i).any (fun o=>decide (o.ins=cs[i].ins)||decide (o.out=cs[i].out))=true:=List.any_eq_true.2 ⟨cs[k],List.mem_iff_getElem?.2 ⟨k,by rw[List.getElem?_take,if_pos (by omega)];exact List.getElem?_eq_getElem hkl⟩,by simpa using hb⟩
    rw[hok,this];simp)
   with_reducible repeat' (first|refine br ?_ ?_<;>intro h e<;>(try simp only[e,go_sem,hg,hgk,E.ext_iff'])<;>clear e|rw[i64w (by omega)]|refine sd ?_<;>try simp only[go_sem,hg,hgk,E.ext_iff']|fail)
   ·exact bad (.inl (by assumption))
   ·exact bad (.inr (by assumption))
   ·refine⟨k+1,by omega,⟨by omega, ?_⟩,(leQ [])⟩
    rw[List.take_add_one,List.getElem?_eq_getElem hkl]
    simp only[Option.toList_some,List.any_append,hka,List.any_cons,List.any_nil,Bool.or_false,Bool.false_or,Bool.or_eq_false_iff,decide_eq_false_iff_not]
    exact⟨by assumption,by assumption⟩
  ·simp only[eq_false h2,go_sem]
   obtain rfl:k=i:=by omega
   have c1:=c98 cs[k] b1 b2 b3 b4
   with_reducible repeat' (first|refine br ?_ ?_<;>intro h e<;>(try simp only[e,go_sem,hg])<;>clear e|rw[i64w (by omega)]|refine sd ?_<;>try simp only[go_sem,hg]|(first|refine cr (c1 ..) ?_)<;>try simp only[go_sem,hg]|fail)
   ·refine⟨k+1,by omega,⟨by omega,fun j hj=>?_⟩,(leQ [])⟩
    rcases Nat.lt_or_ge j k with hjk|hjk
    ·exact ha j hjk
    ·obtain rfl:j=k:=by omega
     rw[hok,hka];simp[*]
   ·exact okConv_b hil (by rw[hok];simp[*])
 ·simp only[eq_false h,go_sem]
  have:i=cs.length:=by omega
  subst this
  with_reducible repeat' (first|refine br ?_ ?_<;>intro h e<;>(try simp only[e,go_sem])<;>clear e|rw[i64w (by omega)]|refine sd ?_<;>try simp only[go_sem]|fail)
  have h1:=together_iff (cs:=cs)
  by_cases h2:cs.length≤2
  ·rw[h1.2 ⟨h2,ha⟩];exact(decide_eq_true (by omega)).symm
  ·have:together cs=false:=by
    cases ht:together cs with
    | false=>rfl
    | true=>exact absurd (h1.1 ht).1 h2
   rw[this];exact(decide_eq_false (by omega)).symm
def newA (o:Option M.World) (r:V) (out:List Hs):Prop:=(∃w,o=some w∧r=.tup [.agg [.own 0 w.convs.length,.own 1 w.door.map.length,.own 2 w.door.flows.length,.own 3 w.nets.length],.bool true]∧out=[.arr 47 10 (w.convs.map Conv.row),.arr 88 3 (w.door.map.map Pair.row),.arr 181 8 (w.door.flows.map Flw.row),.arr 70 7 (w.nets.map Pk.row)])∨(o=none∧r=.tup [.agg [.nils,.nils,.nils,.nils],.bool false]∧out=[])
theorem newA_ex (o:Option M.World):∃r out,newA o r out:=by
 cases o with
 | none=>exact⟨_,_,.inr ⟨rfl,rfl,rfl⟩⟩
 | some w=>exact⟨_,_,.inl ⟨w,rfl,rfl,rfl⟩⟩
theorem newConvs_cons (c:Conv) (cs:List Conv):newConvs (c::cs)=match convNew c.ins c.out c.up c.down with
 | some n=>(newConvs cs).map (n::·)
 | none=>none:=by
 simp only[newConvs]
 cases convNew c.ins c.out c.up c.down<;>cases newConvs cs<;>rfl
theorem convNew_is {i o:E} {up down:B} {n:Conv} (h:convNew i o up down=some n):n=⟨i,o,up,down,0,0,[],[]⟩:=by
 unfold convNew at h
 split at h<;>cases h
 rfl
theorem newRet {pin:Nat} {o:Option M.World} {l:List (Nat×V)} {mm:List (Nat×Hs)} {d c e:Nat} (ho:o=none) (h2:getL l d=.pv c 0) (h3:getL l e=.bool false) (m2:getH mm c=.var 41 [.nils,.nils,.nils,.nils]) :
 retQ [.cell d 4 true,.t e] 0 (newA o) .ret ⟨getL l,getH mm⟩:=by
 refine retN (.tup [.agg [.nils,.nils,.nils,.nils],.bool false]) [] [] ?_ (.inr ⟨ho,rfl,rfl⟩) (by simp only[go_sem]) (by simp[argH]) (by simp only[go_sem])
 simp only[go_sem,h2,h3,m2]
theorem newRet1 {o:Option M.World} {w:M.World} {l:List (Nat×V)} {mm:List (Nat×Hs)} {d c e:Nat} (n0 n1 n2 n3:Nat) (ho:o=some w) (h4:getL l d=.pv c 0) (h5:getL l e=.bool true)
 (m4:getH mm c=.var 41 [.own n0 w.convs.length,.own n1 w.door.map.length,.own n2 w.door.flows.length,.own n3 w.nets.length])
 (m0:getH mm n0=.arr 47 10 (w.convs.map Conv.row)) (m1:getH mm n1=.arr 88 3 (w.door.map.map Pair.row)) (m2:getH mm n2=.arr 181 8 (w.door.flows.map Flw.row)) (m3:getH mm n3=.arr 70 7 (w.nets.map Pk.row))
 (hne:[n0,n1,n2,n3].Nodup):retQ [.cell d 4 true,.t e] 0 (newA o) .ret ⟨getL l,getH mm⟩:=by
 refine retN (.tup [.agg [.own 0 w.convs.length,.own 1 w.door.map.length,.own 2 w.door.flows.length,.own 3 w.nets.length],.bool true]) [.arr 47 10 (w.convs.map Conv.row),.arr 88 3 (w.door.map.map Pair.row),.arr 181 8 (w.door.flows.map Flw.row),.arr 70 7 (w.nets.map Pk.row)] [(0,n0),(1,n1),(2,n2),(3,n3)] ?_ (.inl ⟨w,ho,rfl,rfl⟩) ?_ (by simpa[argH,getN] using hne) (by simp only[go_sem])
 ·simp only[go_sem,h4,h5,m4]
 ·simp only[go_sem,m0,m1,m2,m3]
def ic29:IC:=sR [oP 2 (.alloc 41 [.nils,.nils,.nils,.nils]),oP 3 (.mv (.c (.bool false)))] (sR [oP 8 (.bsl 47 10 []),oP 9 (.bsl 88 3 []),oP 10 (.bsl 181 8 []),oP 11 (.build [.nils,.nils] [(0,(1,.t 9)),(1,(1,.t 10))]),oP 12 (.bsl 70 7 []),oP 13 (.build [.nils,.nils,.nils,.nils] [(0,(1,.t 8)),(1,(2,.t 11)),(3,(1,.t 12))]),oP 4 (.alloc 41 [.nils,.nils,.nils,.nils]),nP (.sto 4 (.t 4) (.t 13))] (.seq (sR [oP 5 (.mv (.c i0))] (.block 0 (.loop (.seq (sR [mV 14 5,mV 15 0,oP 16 (.len (.t 15)),bN 17 .lss 14 16] (.cond (.t 17) .skip (.exit 0))) (.seq (.block 1 (.seq (.drw [0,0,3,7,15,0,0,96,224,480,0,0,3072,7168,15360,0,0,98304,229376,491520,1048575,2097151,4194303,4194303,0,25165823,67108863] [(0,mV 21 0),(1,mV 22 5),(2,oP 23 (.iad 10 (.t 21) (.t 22))),(3,fD 24 0 23),(4,lA 25 2 24),(5,mV 26 0),(6,mV 27 5),(7,oP 28 (.iad 10 (.t 26) (.t 27))),(8,fD 29 2 28),(9,lA 30 2 29),(10,mV 31 0),(11,mV 32 5),(12,oP 33 (.iad 10 (.t 31) (.t 32))),(13,fD 34 4 33),(14,lD 35 1 34),(15,mV 36 0),(16,mV 37 5),(17,oP 38 (.iad 10 (.t 36) (.t 37))),(18,fD 39 5 38),(19,lD 40 1 39),(20,oP 41 (.call 54 [.t 25,.t 30,.t 35,.t 40])),(21,mV 20 41),(22,eX 42 20 0),(23,eX 43 20 1),(24,oP 6 (.alloc 47 [i0,i0,i0,i0,s0,s0,i0,i0,s0,s0])),(25,nP (.sto 10 (.t 6) (.t 42))),(26,mV 7 43)]) (.seq (sR [mV 44 7,oP 45 (.un .not (.t 44))] (.cond (.t 45) (sR [oP 46 (.build [.nils,.nils,.nils,.nils] []),nP (.sto 4 (.t 2) (.t 46)),oP 3 (.mv (.c (.bool false)))] .ret) .skip)) (.reg [fD 47 0 4,lD 48 1 47,lA 49 10 6,oP 50 (.bsl 47 10 [.t 49]),oP 51 (.app 47 10 (.t 48) (.t 50)),fD 52 0 4,nP (.sto 1 (.t 52) (.t 51))])))) (.reg [mV 18 5,oP 19 (.bin .add (.t 18) (.c (.int .i64 1))),mV 5 19])))))) (.seq (sR [fD 53 0 4,lD 54 1 53,oP 55 (.call 55 [.t 54]),oP 56 (.un .not (.t 55))] (.cond (.t 56) (sR [oP 57 (.build [.nils,.nils,.nils,.nils] []),nP (.sto 4 (.t 2) (.t 57)),oP 3 (.mv (.c (.bool false)))] .ret) .skip)) (sR [lA 58 4 4,nP (.sto 4 (.t 2) (.t 58)),oP 3 (.mv (.c (.bool true)))] .ret))))
theorem dg29:Dg Tryz.prog 29 Tryz.f29 ic29 [(.cell 2 4 true),(.t 3)]:=⟨Tryz.func29,by kernel_rfl,by kernel_rfl⟩
theorem c29 (cs:List Conv) (hl:cs.length≤1000000) (hB:∀c∈cs,c.up.length≤2000000∧c.down.length≤2000000):FnP Tryz.prog G 29 0 [] [.sl 10 (cs.map Conv.row)] (newA (worldNew cs)):=by
 refine mP dg29 Tryz.ntmps29 (newA_ex _) ?_
 simp only[ic29,go_sem]
 refine loopN (fun a:Nat×List Conv=>⟨getL [(0,.sl 10 (cs.map Conv.row)),(2,.pv 1002 0),(4,.pv 1004 0),(5,.int .i64 (a.1:Int))],getH [(1002,.var 41 [.nils,.nils,.nils,.nils]),(1004,.var 41 [.own 1008 a.2.length,.own 1009 0,.own 1010 0,.own 1012 0]),(1008,.arr 47 10 (a.2.map Conv.row)),(1009,.arr 88 3 []),(1010,.arr 181 8 []),(1012,.arr 70 7 [])]⟩)
  (fun a=>cs.length - a.1) (fun a=>a.1≤cs.length∧a.2.length=a.1∧newConvs cs=(newConvs (cs.drop a.1)).map (a.2++·)∧∀c∈a.2,(c.up.length≤2000000∧c.down.length≤2000000)∧c.upGot.length≤2000000∧c.downGot.length≤2000000) (0,[]) (leQ []) ⟨Nat.zero_le _,rfl,by simp,by simp⟩ ?_
 intro⟨i,ns⟩ ⟨hi,hnl,hnc,hnB⟩
 simp only at hi hnl hnc hnB
 simp only[go_sem]
 by_cases h:(i:Int)<cs.length
 ·have hil:i<cs.length:=by omega
  have hg:cs.getD i default=cs[i]:=by simp[List.getD,hil]
  obtain⟨b1,b2⟩:=hB _ (List.getElem_mem hil)
  rw[List.drop_eq_getElem_cons hil,newConvs_cons] at hnc
  have c1:=c54 cs[i].ins cs[i].out cs[i].up cs[i].down b1 b2
  simp only[eq_true h,go_sem]
  with_reducible repeat' (first|refine br ?_ ?_<;>intro h e<;>(try simp only[e,go_sem,hg])<;>clear e|rw[i64w (by omega)]|refine sd ?_<;>try simp only[go_sem,hg]|(first|refine cr (c1 ..) ?_)<;>try simp only[go_sem,hg]|fail)
  ·obtain⟨n,hn⟩:=Option.isSome_iff_exists.1 (by assumption)
   have hni:=convNew_is hn
   simp only[hn,Option.getD_some] at hnc ⊢
   refine⟨(i+1,ns++[n]),by simp only;omega,⟨by simp only;omega,by simp only[List.length_append,List.length_cons,List.length_nil];omega, ?_, ?_⟩,leN [(1008,1051)] ?_ ?_ (by simp[getN]) (by simp only[go_sem])⟩
   ·simp only
    rw[hnc]
    cases newConvs (cs.drop (i+1))<;>simp
   ·intro c hc
    rcases List.mem_append.1 hc with hc|hc
    ·exact hnB c hc
    ·simp only[List.mem_singleton] at hc
     subst hc
     rw[hni]
     exact⟨⟨b1,b2⟩,by simp,by simp⟩
   ·simp only[go_sem];simp
   ·simp only[go_sem];simp[Conv.row]
  ·refine newRet (pin:=0) (c:=1002) ?_ (by simp only[go_sem]) (by simp only[go_sem]) (by simp only[go_sem])
   have hn:convNew cs[i].ins cs[i].out cs[i].up cs[i].down=none:=by simpa using h
   rw[hn] at hnc
   simp only[Option.map_none] at hnc
   simp[worldNew,hnc]
 ·simp only[eq_false h,go_sem]
  have:i=cs.length:=by omega
  subst this
  rw[List.drop_length] at hnc
  simp only[newConvs,Option.map_some,List.append_nil] at hnc
  refine callF (c55 ns (by omega) hnB) [1008] false (by simp only[go_sem];first|done|simp[E.row,Pc.row,Pair.row,Part.row,Flw.row,Pk.row,Conv.row]) (by simp only[List.mem_singleton];rintro c rfl;rfl) rfl (.inr rfl) ?_
  simp only[go_sem]
  cases ht:together ns<;>simp only[go_sem]
  ·refine newRet (pin:=0) (c:=1002) ?_ (by simp only[go_sem]) (by simp only[go_sem]) (by simp only[go_sem])
   simp[worldNew,hnc,ht]
  ·refine newRet1 (c:=1002) (w:=⟨ns,.zero,[]⟩) 1008 1009 1010 1012 ?_ ?_ ?_ ?_ ?_ ?_ ?_ ?_ (by decide)
   ·simp[worldNew,hnc,ht]
   all_goals simp only[go_sem,Door.zero]
theorem cvP (cs:List Conv):((cs.map Conv.row).all fun r=>r.all V.plain0)=true:=by simp[Conv.row,V.plain0]
structure WS (w:M.World):Prop where
 cl:w.convs.length≤2000000
 cb:∀c∈w.convs,(c.up.length≤2000000∧c.down.length≤2000000)∧c.upGot.length≤2000000∧c.downGot.length≤2000000
 db:DB w.door
 nl:w.nets.length≤2000000
 nt:∀p∈w.nets,p.text.length≤2000000
theorem wx_ws {X:List (E×E)} {w:M.World} (h:WX X w):WS w:=by
 obtain⟨hdm,hdf,_⟩:=doorOk_iff.1 h.door
 have hm:=(mapOk_ports hdm).2
 have hcl:=h.cl
 have hnl:=h.nl
 refine⟨by omega,fun c hc=>?_,⟨by omega,by omega,fun f hf=>?_⟩,by omega,fun p hp=>?_⟩
 ·have:=convOk_B (h.cv c hc)
  have h1:=this.up;have h2:=this.down;have h3:=this.upGot;have h4:=this.downGot
  omega
 ·obtain⟨k,hk⟩:=List.mem_iff_getElem?.1 hf
  obtain⟨_,_,h1,h2,_⟩:=flow_at h.door hk
  exact⟨(strmOk_B h1).sb,(strmOk_B h2).sb⟩
 ·have:=(h.net p hp).pk.len
  omega
def ic102:IC:=sR [oP 1 (.box 41 (.t 0)),oP 2 (.mv (.c (.bool false)))] (.seq (sR [oP 3 (.mv (.c i0))] (.block 0 (.loop (.seq (sR [mV 4 3,fD 5 3 1,lD 6 1 5,oP 7 (.len (.t 6)),bN 8 .lss 4 7] (.cond (.t 8) .skip (.exit 0))) (.seq (.block 1 (sR [fD 11 3 1,lD 12 1 11,mV 13 3,oP 14 (.iad 7 (.t 12) (.t 13)),lA 15 7 14,oP 16 (.call 60 [.t 15]),oP 17 (.un .not (.t 16))] (.cond (.t 17) (sR [oP 2 (.mv (.c (.bool false)))] .ret) .skip))) (.reg [mV 9 3,oP 10 (.bin .add (.t 9) (.c (.int .i64 1))),mV 3 10])))))) (sR [fD 18 0 1,lD 19 1 18,oP 20 (.call 55 [.t 19]),mV 21 20,⟨some 22,some (21,true),.fad 1 (.t 1)⟩,⟨some 23,some (21,true),.ld 2 true (.t 22)⟩,⟨some 24,some (21,true),.call 140 [.t 23]⟩,oP 25 (.pick (.t 21) (.t 24) (.c (.bool false))),mV 26 25,⟨some 27,some (26,true),.fad 3 (.t 1)⟩,⟨some 28,some (26,true),.ld 1 false (.t 27)⟩,⟨some 29,some (26,true),.len (.t 28)⟩,⟨some 30,some (26,true),.bin .leq (.t 29) (.c (.int .i64 10))⟩,oP 31 (.pick (.t 26) (.t 30) (.c (.bool false))),mV 2 31] .ret))
theorem dg102:Dg Tryz.prog 102 Tryz.f102 ic102 [(.t 2)]:=⟨Tryz.func102,by kernel_rfl,by kernel_rfl⟩
theorem c102 (w:M.World) (h:WS w):FnR Tryz.prog G 102 [.agg [.sl 10 (w.convs.map Conv.row),.sl 3 (w.door.map.map Pair.row),.sl 8 (w.door.flows.map Flw.row),.sl 7 (w.nets.map Pk.row)]] (.bool (worldOk w)):=by
 refine mF dg102 Tryz.ntmps102 ?_
 have f1:=c55 w.convs h.cl h.cb
 have f2:=c140 w.door h.db
 have e:worldOk w=(together w.convs&&doorOk w.door&&decide (w.nets.length≤10)&&w.nets.all pkOk):=rfl
 simp only[ic102,go_sem]
 refine loopN (fun k:Nat=>⟨getL [(1,.pv 1001 0),(3,.int .i64 (k:Int))],getH [(1001,.var 41 [.sl 10 (w.convs.map Conv.row),.sl 3 (w.door.map.map Pair.row),.sl 8 (w.door.flows.map Flw.row),.sl 7 (w.nets.map Pk.row)])]⟩) (fun k=>w.nets.length - k) (fun k=>k≤w.nets.length∧(w.nets.take k).all pkOk=true) 0 (leQ []) ⟨Nat.zero_le _,by simp⟩ ?_
 intro k ⟨hk,ha⟩
 simp only[go_sem]
 by_cases hh:(k:Int)<w.nets.length
 ·have hil:k<w.nets.length:=by omega
  have hg:w.nets.getD k default=w.nets[k]:=by simp[List.getD,hil]
  have fp:=c60 w.nets[k] (h.nt _ (List.getElem_mem hil))
  cases hb:pkOk w.nets[k] with
  | false =>
    rw[hb] at fp
    have hbad:worldOk w=false:=by
     rw[e]
     have:w.nets.all pkOk=false:=by
      cases hx:w.nets.all pkOk with
      | false=>rfl
      | true =>
        have:=List.all_eq_true.1 hx _ (List.getElem_mem hil)
        rw[hb] at this
        cases this
     rw[this,Bool.and_false]
    simp only[eq_true hh,go_sem]
    generalize w.nets[k]=q at *
    with_reducible repeat' (first|refine br ?_ ?_<;>intro h e<;>(try simp only[e,go_sem,getD_mp hil,hg])<;>clear e|rw[i64w (by omega)]|refine sd ?_<;>try simp only[go_sem,getD_mp hil,hg]|(first|refine cr (fp ..) ?_)<;>try simp only[go_sem,getD_mp hil,hg]|fail)
    all_goals first|done|exact hbad|simp[hbad]
  | true =>
    rw[hb] at fp
    have hst:(w.nets.take (k+1)).all pkOk=true:=by
     rw[List.take_add_one,List.getElem?_eq_getElem hil]
     simp only[Option.toList_some,List.all_append,ha,List.all_cons,List.all_nil,Bool.and_true,hb]
    simp only[eq_true hh,go_sem]
    generalize w.nets[k]=q at *
    have hnl:=h.nl
    with_reducible repeat' (first|rw[i64w (by omega)];try simp only[go_sem,getD_mp hil,hg]|refine br ?_ ?_<;>intro h e<;>(try simp only[e,go_sem,getD_mp hil,hg])<;>clear e|refine sd ?_<;>try simp only[go_sem,getD_mp hil,hg]|(first|refine cr (fp ..) ?_)<;>try simp only[go_sem,getD_mp hil,hg]|fail)
    exact⟨k+1,by omega,⟨by omega,hst⟩,(leQ [])⟩
 ·simp only[eq_false hh,go_sem]
  obtain rfl:k=w.nets.length:=by omega
  rw[List.take_length] at ha
  have e2:worldOk w=(together w.convs&&doorOk w.door&&decide (w.nets.length≤10)):=by rw[e,ha,Bool.and_true]
  rw[e2]
  clear e e2 ha
  generalize together w.convs=b1 at *
  generalize doorOk w.door=b2 at *
  with_reducible repeat' (first|refine br ?_ ?_<;>intro h e<;>(try simp only[e,go_sem])<;>clear e|rw[i64w (by omega)]|refine sd ?_<;>try simp only[go_sem]|(first|refine cr (f1 ..) ?_|refine cr (f2 ..) ?_)<;>try simp only[go_sem]|fail)
  all_goals first|done|(clear f1 f2;simp_all;done)|(clear f1 f2;simp_all;omega)|trace_state
def ic103:IC:=sR [oP 1 (.box 41 (.t 0)),oP 2 (.alloc 41 [.nils,.nils,.nils,.nils])] (.seq (.drw [0,0,2,7,0,16,63,0,0,256,1023,2047,4095] [(0,oP 3 (.bsl 47 10 [])),(1,fD 4 0 1),(2,lD 5 1 4),(3,oP 6 (.app 47 10 (.t 3) (.t 5))),(4,fD 7 1 1),(5,lA 8 2 7),(6,oP 9 (.call 141 [.t 8])),(7,oP 10 (.bsl 70 7 [])),(8,fD 11 3 1),(9,lD 12 1 11),(10,oP 13 (.app 70 7 (.t 10) (.t 12))),(11,oP 14 (.build [.nils,.nils,.nils,.nils] [(0,(1,.t 6)),(1,(2,.t 9)),(3,(1,.t 13))])),(12,nP (.sto 4 (.t 2) (.t 14)))]) .ret)
theorem dg103:Dg Tryz.prog 103 Tryz.f103 ic103 [(.cell 2 4 true)]:=⟨Tryz.func103,by kernel_rfl,by kernel_rfl⟩
theorem c103 {X:List (E×E)} (w:M.World) (hw:WX X w):FnP Tryz.prog G 103 0 [] [.agg [.sl 10 (w.convs.map Conv.row),.sl 3 (w.door.map.map Pair.row),.sl 8 (w.door.flows.map Flw.row),.sl 7 (w.nets.map Pk.row)]] (worldA w):=by
 refine mP dg103 Tryz.ntmps103 ⟨_,_,rfl,rfl⟩ ?_
 have hnl:=hw.nl
 have hcl:=hw.cl
 have hfl:=hw.flows3
 obtain⟨hdm,hdf,_⟩:=doorOk_iff.1 hw.door
 have hml:=(mapOk_ports hdm).2
 simp only[ic103,go_sem]
 with_reducible repeat' (first|refine br ?_ ?_<;>intro h e<;>(try simp only[e,go_sem])<;>clear e|rw[i64w (by omega)]|refine sd ?_<;>try simp only[go_sem]|fail)
 refine callO (c141 (w.door.map.map Pair.row) w.door.flows (by simp;omega) (by omega) (copyC hw.door)) [] 9 2 (by simp only[go_sem];first|done|simp) (by simp) (by rintro _ _ ⟨rfl,rfl⟩;simp) (by intro i hi;rcases(show i=0∨i=1 by omega) with rfl|rfl<;>simp only[go_sem]) ?_
 rintro _ _ ⟨rfl,rfl⟩
 simp only[go_sem]
 with_reducible repeat' (first|refine br ?_ ?_<;>intro h e<;>(try simp only[e,go_sem])<;>clear e|rw[i64w (by omega)]|refine sd ?_<;>try simp only[go_sem]|fail)
 exact worldRet (d:=2) (c:=1002) 1006 100900 100901 1013 (by simp only[go_sem]) (by simp only[go_sem];first|done|simp) (by simp only[go_sem];first|done|simp) (by simp only[go_sem]) (by simp only[go_sem]) (by simp only[go_sem];first|done|simp) (by decide)
def ic90:IC:=sR [oP 4 (.box 70 (.t 1))] (sR [oP 6 (.mv (.c i0))] (.block 0 (.loop (.seq (sR [mV 7 2,mV 8 7,⟨some 9,some (8,true),.mv (.t 6)⟩,⟨some 10,some (8,true),.bin .lss (.t 9) (.c (.int .i64 4))⟩,oP 11 (.pick (.t 8) (.t 10) (.c (.bool false)))] (.cond (.t 11) .skip (.exit 0))) (.seq (.block 1 (.reg [mV 15 0,lA 16 7 4,oP 17 (.call 80 [.t 15,.t 16]),mV 14 17,eX 18 14 0,eX 19 14 1,nP (.sto 7 (.t 4) (.t 18)),mV 2 19])) (.reg [mV 12 6,oP 13 (.bin .add (.t 12) (.c (.int .i64 1))),mV 6 13]))))))
theorem dg90:Dg Tryz.prog 90 Tryz.f90 ic90 []:=⟨Tryz.func90,by kernel_rfl,by kernel_rfl⟩
theorem c90 {X:List (E×E)} (w:M.World) (p:Pk) (ok:Bool) (hw:WX X w) (hp:ok=true→NetX X w.convs p):FnP Tryz.prog G 90 1 [.var 41 [.own 2 w.convs.length,.sl 3 (w.door.map.map Pair.row),.own 1 w.door.flows.length,.own 3 w.nets.length],.arr 181 8 (w.door.flows.map Flw.row),.arr 47 10 (w.convs.map Conv.row),.arr 70 7 (w.nets.map Pk.row)] [.pv 0 0,.agg [.int .i64 p.kind,.int .i64 p.frm.a,.int .i64 p.frm.p,.int .i64 p.to.a,.int .i64 p.to.p,.int .i64 p.at_,.str p.text],.bool ok] (fun r o=>r=.tup []∧∃v,v=through 4 w (bif ok then some p else none)∧o=[.var 41 [.own 2 v.convs.length,.sl 3 (v.door.map.map Pair.row),.own 1 v.door.flows.length,.own 3 v.nets.length],.arr 181 8 (v.door.flows.map Flw.row),.arr 47 10 (v.convs.map Conv.row),.arr 70 7 (v.nets.map Pk.row)]):=by
 refine mP dg90 Tryz.ntmps90 ⟨_,_,rfl,_,rfl,rfl⟩ ?_
 have fin:∀l mm (v:M.World),v=through 4 w (bif ok then some p else none)→getH mm 0=.var 41 [.own 2 v.convs.length,.sl 3 (v.door.map.map Pair.row),.own 1 v.door.flows.length,.own 3 v.nets.length]→getH mm 1=.arr 181 8 (v.door.flows.map Flw.row)→getH mm 2=.arr 47 10 (v.convs.map Conv.row)→getH mm 3=.arr 70 7 (v.nets.map Pk.row) →
  retQ [] 1 (fun r o=>r=.tup []∧∃v,v=through 4 w (bif ok then some p else none)∧o=[.var 41 [.own 2 v.convs.length,.sl 3 (v.door.map.map Pair.row),.own 1 v.door.flows.length,.own 3 v.nets.length],.arr 181 8 (v.door.flows.map Flw.row),.arr 47 10 (v.convs.map Conv.row),.arr 70 7 (v.nets.map Pk.row)]) .normal ⟨getL l,getH mm⟩:=fun l mm v h0 h1 h2 h3 h4=>by
  show retQ _ _ _ .ret _
  refine retN (.tup []) [.var 41 [.own 2 v.convs.length,.sl 3 (v.door.map.map Pair.row),.own 1 v.door.flows.length,.own 3 v.nets.length],.arr 181 8 (v.door.flows.map Flw.row),.arr 47 10 (v.convs.map Conv.row),.arr 70 7 (v.nets.map Pk.row)] [] (by simp only[go_sem,resL_0]) ⟨rfl,v,h0,rfl⟩ ?_ (by simp[argH,getN]) (by simp only[go_sem])
  simp only[go_sem,h1,h2,h3,h4]
 simp only[ic90,go_sem]
 refine loopN (fun a:Nat×M.World×Pk×Bool=>⟨getL [(0,.pv 0 0),(2,.bool a.2.2.2),(4,.pv 1004 0),(6,.int .i64 (a.1:Int))],getH [(0,.var 41 [.own 2 a.2.1.convs.length,.sl 3 (a.2.1.door.map.map Pair.row),.own 1 a.2.1.door.flows.length,.own 3 a.2.1.nets.length]),(1,.arr 181 8 (a.2.1.door.flows.map Flw.row)),(2,.arr 47 10 (a.2.1.convs.map Conv.row)),(3,.arr 70 7 (a.2.1.nets.map Pk.row)),(1004,.var 70 (Pk.row a.2.2.1))]⟩)
  (fun a=>4 - a.1) (fun a=>a.1≤4∧WX X a.2.1∧(a.2.2.2=true→NetX X a.2.1.convs a.2.2.1)∧through 4 w (bif ok then some p else none)=through (4 - a.1) a.2.1 (bif a.2.2.2 then some a.2.2.1 else none)) (0,w,p,ok) (leQ []) ⟨Nat.zero_le _,hw,hp,rfl⟩ ?_
 intro⟨n,v,q,b⟩ ⟨hn,hv,hq,he⟩
 simp only at hn hv hq he
 simp only[go_sem]
 cases b
 ·simp only[go_sem]
  rw[cond_false,through_none] at he
  exact fin _ _ v he.symm (by simp only[go_sem]) (by simp only[go_sem]) (by simp only[go_sem]) (by simp only[go_sem])
 by_cases h:(n:Int)<4
 ·have hq:=hq rfl
  obtain⟨k1,k2⟩:=carry_X hv hq
  have e4:4 - n=(4 - (n+1))+1:=by omega
  rw[cond_true,e4] at he
  simp only[through] at he
  simp only[eq_true h,go_sem]
  refine callN (x80 v q hv hq.pk) [0,1,2,3] [] true 17 4 (by simp only[go_sem];first|done|simp) (by simp only[go_sem];first|done|simp) (by simp) (by simp) (by simp) ?_ ?_ ?_
  ·rintro res out ⟨q,rfl,hq,rfl⟩
   exact⟨by simp,by simp,.inl rfl,fun i hi=>by obtain rfl:i=0:=(by omega);simp[chH,stepOk]⟩
  ·intro i hi
   rcases(show i=0∨i=1∨i=2∨i=3 by omega) with rfl|rfl|rfl|rfl<;>simp only[go_sem]
  rintro res out ⟨q',rfl,hq',rfl⟩
  generalize carry v q=x at *
  obtain⟨v',o⟩:=x
  simp only at k1 k2 he hq'
  have ho:(bif o.isSome then some q' else none)=o:=by
   cases o with
   | none=>rfl
   | some y=>rw[hq' y rfl];rfl
  simp only[go_sem]
  with_reducible repeat' (first|rw[i64w (by omega)];try simp only[go_sem]|refine br ?_ ?_<;>intro h e<;>(try simp only[e,go_sem])<;>clear e|refine sd ?_<;>try simp only[go_sem]|fail)
  exact⟨(n+1,v',q',o.isSome),by simp only;omega,⟨by simp only;omega,k1,fun hb=>k2 q' (by rw[←ho];simp only at hb;rw[hb];rfl),by simp only;rw[ho];exact he⟩,(leQ [(1,101701),(2,101702),(3,101703)])⟩
 ·simp only[eq_false h,go_sem]
  have e0:4 - n=0:=by omega
  rw[e0] at he
  exact fin _ _ v he.symm (by simp only[go_sem]) (by simp only[go_sem]) (by simp only[go_sem]) (by simp only[go_sem])
theorem range_at {n k:Nat} (h:k<n):(List.range n).drop k=k::(List.range n).drop (k+1):=by
 have:=List.drop_eq_getElem_cons (l:=List.range n) (i:=k) (by simpa using h)
 rw[this];simp
theorem sayRound_e {w:M.World} {i:Nat} {c c1:Conv} (h:w.convs[i]?=some c) {o1 o2:Option Pk} {w1:M.World} (h1:say c true 0 c.upAck 24=o1) (hw:w1=through 4 w o1) (hc:w1.convs[i]?=some c1) (h2:say c1 false (portOf w1.door.map c1.ins) c1.downAck 24=o2):sayRound w i=through 4 w1 o2:=by
 unfold sayRound
 rw[h]
 simp only
 rw[h1,←hw,hc]
 simp only
 rw[h2]
def ic49:IC:=sR [mV 6 0,oP 7 (.nilc (.t 6)),fD 8 3 7,lD 9 1 8,mV 2 9] (sR [mV 10 0,oP 11 (.nilc (.t 10)),fD 12 3 11,nP (.sto 1 (.t 12) (.c .nils))] (.seq (sR [mV 13 2,oP 14 (.len (.t 13)),oP 15 (.mv (.c i0))] (.block 0 (.loop (sR [bN 16 .lss 15 14] (.seq (.cond (.t 16) .skip (.exit 0)) (.seq (.block 1 (sR [oP 17 (.iad 7 (.t 13) (.t 15)),lA 18 7 17,oP 4 (.alloc 70 [i0,i0,i0,i0,i0,i0,s0]),nP (.sto 7 (.t 4) (.t 18))] (.reg [mV 19 0,lA 20 7 4,oP 21 (.call 90 [.t 19,.t 20,.c (.bool true)])]))) (.reg [oP 22 (.bin .add (.t 15) (.c (.int .i64 1))),mV 15 22]))))))) (sR [mV 23 0,oP 24 (.nilc (.t 23)),fD 25 0 24,lD 26 1 25,oP 27 (.len (.t 26)),oP 28 (.mv (.c i0))] (.block 2 (.loop (sR [bN 29 .lss 28 27] (.seq (.cond (.t 29) .skip (.exit 2)) (.seq (.block 3 (sR [mV 30 28,mV 5 30] (.seq (.drw [0,0,2,6,14,0,62,126,0,256,768,1792,0,7936,16128,32512,65534,131070,131070,524287] [(0,mV 31 0),(1,mV 32 0),(2,oP 33 (.nilc (.t 32))),(3,fD 34 0 33),(4,lD 35 1 34),(5,mV 36 5),(6,oP 37 (.iad 10 (.t 35) (.t 36))),(7,lA 38 10 37),(8,mV 39 0),(9,oP 40 (.nilc (.t 39))),(10,fD 41 0 40),(11,lD 42 1 41),(12,mV 43 5),(13,oP 44 (.iad 10 (.t 42) (.t 43))),(14,fD 45 6 44),(15,lD 46 1 45),(16,oP 47 (.call 78 [.t 38,.c (.bool true),.c i0,.t 46,.c (.int .i64 24)])),(17,eX 48 47 0),(18,eX 49 47 1),(19,oP 50 (.call 90 [.t 31,.t 48,.t 49]))]) (.drw [0,0,2,6,14,0,62,126,0,0,768,0,2048,6144,14336,0,63488,129024,260096,524286,1048574,1048574,4194303] [(0,mV 51 0),(1,mV 52 0),(2,oP 53 (.nilc (.t 52))),(3,fD 54 0 53),(4,lD 55 1 54),(5,mV 56 5),(6,oP 57 (.iad 10 (.t 55) (.t 56))),(7,lA 58 10 57),(8,mV 59 0),(9,mV 60 5),(10,oP 61 (.call 79 [.t 59,.t 60])),(11,mV 62 0),(12,oP 63 (.nilc (.t 62))),(13,fD 64 0 63),(14,lD 65 1 64),(15,mV 66 5),(16,oP 67 (.iad 10 (.t 65) (.t 66))),(17,fD 68 7 67),(18,lD 69 1 68),(19,oP 70 (.call 78 [.t 58,.c (.bool false),.t 61,.t 69,.c (.int .i64 24)])),(20,eX 71 70 0),(21,eX 72 70 1),(22,oP 73 (.call 90 [.t 51,.t 71,.t 72]))])))) (.reg [oP 74 (.bin .add (.t 28) (.c (.int .i64 1))),mV 28 74])))))))))
theorem dg49:Dg Tryz.prog 49 Tryz.f49 ic49 []:=⟨Tryz.func49,by kernel_rfl,by kernel_rfl⟩
set_option maxHeartbeats 1000000 in
theorem c49 {X:List (E×E)} (w:M.World) (hw:WX X w):FnP Tryz.prog G 49 1 [.var 41 [.own 2 w.convs.length,.sl 3 (w.door.map.map Pair.row),.own 1 w.door.flows.length,.own 3 w.nets.length],.arr 181 8 (w.door.flows.map Flw.row),.arr 47 10 (w.convs.map Conv.row),.arr 70 7 (w.nets.map Pk.row)] [.pv 0 0] (fun r o=>r=.tup []∧∃v,v=M.round w∧o=[.var 41 [.own 2 v.convs.length,.sl 3 (v.door.map.map Pair.row),.own 1 v.door.flows.length,.own 3 v.nets.length],.arr 181 8 (v.door.flows.map Flw.row),.arr 47 10 (v.convs.map Conv.row),.arr 70 7 (v.nets.map Pk.row)]):=by
 refine mP dg49 Tryz.ntmps49 ⟨_,_,rfl,_,rfl,rfl⟩ ?_
 have hnl:=hw.nl
 have hcl:=hw.cl
 have opt_i:∀o:Option Pk,(bif o.isSome then some (o.getD .zero) else none)=o:=fun o=>by cases o<;>rfl
 simp only[ic49,go_sem]
 with_reducible repeat' (first|refine br ?_ ?_<;>intro h e<;>(try simp only[e,go_sem])<;>clear e|rw[i64w (by omega)]|refine sd ?_<;>try simp only[go_sem]|fail)
 refine loopN (fun a:Nat×M.World=>⟨getL [(0,.pv 0 0),(13,.own 3 w.nets.length),(14,.int .i64 w.nets.length),(15,.int .i64 (a.1:Int))],getH [(0,.var 41 [.own 2 a.2.convs.length,.sl 3 (a.2.door.map.map Pair.row),.own 1 a.2.door.flows.length,.own 200003 a.2.nets.length]),(1,.arr 181 8 (a.2.door.flows.map Flw.row)),(2,.arr 47 10 (a.2.convs.map Conv.row)),(200003,.arr 70 7 (a.2.nets.map Pk.row)),(3,.arr 70 7 (w.nets.map Pk.row))]⟩)
  (fun a=>w.nets.length - a.1) (fun a=>a.1≤w.nets.length∧WX X a.2∧Ext w a.2∧w.nets.foldl (fun w p=>through 4 w (some p)) { w with nets:=[] }=(w.nets.drop a.1).foldl (fun w p=>through 4 w (some p)) a.2) (0,{ w with nets:=[] })
  (St.le_trans (nilOwn (row:=[.own 2 w.convs.length,.sl 3 (w.door.map.map Pair.row),.own 1 w.door.flows.length,.nils]) 0 200003 70 7 41 3 (by simp only[go_sem]) (by decide) (by simp only[go_sem]) rfl) (leN [] (by simp only[go_sem]) (by simp only[go_sem,List.set_cons_succ,List.set_cons_zero]) (by simp[getN]) (by simp only[go_sem]))) ⟨Nat.zero_le _,hw.empty,.same rfl rfl,by simp⟩ ?_
 intro⟨k,v⟩ ⟨hk,hv,hx,he⟩
 simp only at hk hv hx he
 simp only[go_sem]
 by_cases h:(k:Int)<w.nets.length
 ·have hil:k<w.nets.length:=by omega
  have hg:w.nets.getD k default=w.nets[k]:=by simp[List.getD,hil]
  rw[List.drop_eq_getElem_cons hil,List.foldl_cons] at he
  have hnp:=(hw.net _ (List.getElem_mem hil)).ext hx
  generalize w.nets[k]=p at *
  simp only[eq_true h,go_sem]
  with_reducible repeat' (first|rw[i64w (by omega)];try simp only[go_sem,getD_mp hil,hg]|refine br ?_ ?_<;>intro h e<;>(try simp only[e,go_sem,getD_mp hil,hg])<;>clear e|refine sd ?_<;>try simp only[go_sem,getD_mp hil,hg]|fail)
  refine callN (c90 v p true hv (fun _=>hnp)) [0,1,2,200003] [] true 21 4 (by simp only[go_sem];first|done|simp) (by simp only[go_sem];first|done|simp) (by simp) (by simp) (by simp) ?_ ?_ ?_
  ·rintro _ _ ⟨rfl,v',hv',rfl⟩
   exact⟨by simp,by simp,.inl rfl,fun i hi=>by obtain rfl:i=0:=(by omega);simp[chH,stepOk]⟩
  ·intro i hi
   rcases(show i=0∨i=1∨i=2∨i=3 by omega) with rfl|rfl|rfl|rfl<;>simp only[go_sem]
  rintro _ _ ⟨rfl,v',hv',rfl⟩
  simp only[go_sem]
  with_reducible repeat' (first|rw[i64w (by omega)];try simp only[go_sem]|refine br ?_ ?_<;>intro h e<;>(try simp only[e,go_sem])<;>clear e|refine sd ?_<;>try simp only[go_sem]|fail)
  rw[cond_true] at hv'
  exact⟨(k+1,v'),by simp only;omega,⟨by simp only;omega,by rw[hv'];exact hv.through 4 (fun q hq=>by cases hq;exact hnp),by rw[hv'];exact hx.trans (through_ext 4 _ _),by rw[hv'];exact he⟩,(leQ [(1,102101),(2,102102),(200003,102103)])⟩
 simp only[eq_false h,go_sem]
 obtain rfl:k=w.nets.length:=by omega
 rw[List.drop_length,List.foldl_nil] at he
 have hrd:M.round w=(List.range v.convs.length).foldl sayRound v:=by rw[←he];rfl
 clear he hx h
 with_reducible repeat' (first|refine br ?_ ?_<;>intro h e<;>(try simp only[e,go_sem])<;>clear e|rw[i64w (by omega)]|refine sd ?_<;>try simp only[go_sem]|fail)
 have hvl:=hv.cl
 generalize hn:v.convs.length=n at *
 refine loopN (fun a:Nat×M.World=>⟨getL [(0,.pv 0 0),(27,.int .i64 n),(28,.int .i64 (a.1:Int))],getH [(0,.var 41 [.own 2 a.2.convs.length,.sl 3 (a.2.door.map.map Pair.row),.own 1 a.2.door.flows.length,.own 200003 a.2.nets.length]),(1,.arr 181 8 (a.2.door.flows.map Flw.row)),(2,.arr 47 10 (a.2.convs.map Conv.row)),(200003,.arr 70 7 (a.2.nets.map Pk.row))]⟩)
  (fun a=>n - a.1) (fun a=>a.1≤n∧WX X a.2∧a.2.convs.length=n∧M.round w=((List.range n).drop a.1).foldl sayRound a.2) (0,v) (leQ []) ⟨Nat.zero_le _,hv,hn,by simpa using hrd⟩ ?_
 clear hrd hv hn v
 intro⟨k,v⟩ ⟨hk,hv,hn,he⟩
 simp only at hk hv hn he
 simp only[go_sem]
 by_cases h:(k:Int)<n
 ·have hil:k<v.convs.length:=by omega
  have hg:v.convs.getD k default=v.convs[k]:=by simp[List.getD,hil]
  have hg2:=List.getElem?_eq_getElem hil
  have hcb:=convOk_B (hv.cv _ (List.getElem_mem hil))
  have hcm:=List.getElem_mem hil
  rw[range_at (by omega),List.foldl_cons] at he
  generalize v.convs[k]=c at *
  have fs:=c78 c true 0 c.upAck 24 (by have:=hcb.up;omega) (by have:=hcb.down;omega)
  have hsn:∀p,say c true 0 c.upAck 24=some p→NetX X v.convs p:=fun p hp=>(say_net hcm (hv.cv c hcm) hp).x
  simp only[eq_true h,go_sem]
  with_reducible repeat' (first|rw[i64w (by omega)];try simp only[go_sem,getD_mp hil,hg]|refine br ?_ ?_<;>intro h e<;>(try simp only[e,go_sem,getD_mp hil,hg])<;>clear e|refine sd ?_<;>try simp only[go_sem,getD_mp hil,hg]|(first|refine cr (fs ..) ?_)<;>try simp only[go_sem,getD_mp hil,hg]|fail)
  generalize ho:say c true 0 c.upAck 24=o at *
  refine callN (c90 v (o.getD .zero) o.isSome hv (fun hb=>hsn _ (by cases o with|none=>cases hb|some y=>rfl))) [0,1,2,200003] [] true 50 4 (by simp only[go_sem];first|done|simp) (by simp only[go_sem];first|done|simp) (by simp) (by simp) (by simp) ?_ ?_ ?_
  ·rintro _ _ ⟨rfl,v',hv',rfl⟩
   exact⟨by simp,by simp,.inl rfl,fun i hi=>by obtain rfl:i=0:=(by omega);simp[chH,stepOk]⟩
  ·intro i hi
   rcases(show i=0∨i=1∨i=2∨i=3 by omega) with rfl|rfl|rfl|rfl<;>simp only[go_sem]
  rintro _ _ ⟨rfl,v1,hv1,rfl⟩
  rw[opt_i] at hv1
  have hw1:WX X v1:=by rw[hv1];exact hv.through 4 hsn
  have hx1:Ext v v1:=by rw[hv1];exact through_ext 4 _ _
  have hil1:k<v1.convs.length:=by rw[hx1.len];exact hil
  have hg1:v1.convs.getD k default=v1.convs[k]:=by simp[List.getD,hil1]
  have hg3:=List.getElem?_eq_getElem hil1
  have hcb1:=convOk_B (hw1.cv _ (List.getElem_mem hil1))
  have hcm1:=List.getElem_mem hil1
  have hml1:=(mapOk_ports (doorOk_iff.1 hw1.door).1).2
  have fp:=c79 v1 k hil1 (by omega)
  rw[hg1] at fp
  generalize v1.convs[k]=c1 at *
  have fs1:=c78 c1 false (portOf v1.door.map c1.ins) c1.downAck 24 (by have:=hcb1.up;omega) (by have:=hcb1.down;omega)
  have hsn1:∀p,say c1 false (portOf v1.door.map c1.ins) c1.downAck 24=some p→NetX X v1.convs p:=fun p hp=>(say_net hcm1 (hw1.cv c1 hcm1) hp).x
  simp only[go_sem]
  with_reducible repeat' (first|rw[i64w (by omega)];try simp only[go_sem,getD_mp hil1,hg1]|refine br ?_ ?_<;>intro h e<;>(try simp only[e,go_sem,getD_mp hil1,hg1])<;>clear e|refine sd ?_<;>try simp only[go_sem,getD_mp hil1,hg1]|fail)
  refine callRd fp [0,105001,105002,105003] 61 4 (by simp only[go_sem];first|done|simp) (by simp only[go_sem];first|done|simp) (by simp) (by simp) ?_ ?_ ?_ ?_
  ·rintro _ _ ⟨rfl,rfl⟩
   exact⟨by simp,by simp,fun i hi=>by rcases(show i=0∨i=1∨i=2∨i=3 by omega) with rfl|rfl|rfl|rfl<;>simp[chH,stepOk]⟩
  ·intro i hi
   rcases(show i=0∨i=1∨i=2∨i=3 by omega) with rfl|rfl|rfl|rfl<;>simp only[go_sem]
  ·rintro _ _ ⟨rfl,rfl⟩ x hx
   simp only[go_sem,List.drop_succ_cons,List.drop_nil,List.append_nil,List.mem_cons,List.not_mem_nil,or_false] at hx
   rcases hx with rfl|rfl|rfl|rfl<;>simp only[go_sem]
  rintro _ _ ⟨rfl,rfl⟩
  simp only[go_sem]
  with_reducible repeat' (first|rw[i64w (by omega)];try simp only[go_sem,getD_mp hil1,hg1]|refine br ?_ ?_<;>intro h e<;>(try simp only[e,go_sem,getD_mp hil1,hg1])<;>clear e|refine sd ?_<;>try simp only[go_sem,getD_mp hil1,hg1]|(first|refine cr (fs1 ..) ?_)<;>try simp only[go_sem,getD_mp hil1,hg1]|fail)
  generalize ho1:say c1 false (portOf v1.door.map c1.ins) c1.downAck 24=o1 at *
  have hse:=sayRound_e hg2 ho hv1 hg3 ho1
  refine callN (c90 v1 (o1.getD .zero) o1.isSome hw1 (fun hb=>hsn1 _ (by cases o1 with|none=>cases hb|some y=>rfl))) [0,105001,105002,105003] [] true 73 4 (by simp only[go_sem];first|done|simp) (by simp only[go_sem];first|done|simp) (by simp) (by simp) (by simp) ?_ ?_ ?_
  ·rintro _ _ ⟨rfl,v',hv',rfl⟩
   exact⟨by simp,by simp,.inl rfl,fun i hi=>by obtain rfl:i=0:=(by omega);simp[chH,stepOk]⟩
  ·intro i hi
   rcases(show i=0∨i=1∨i=2∨i=3 by omega) with rfl|rfl|rfl|rfl<;>simp only[go_sem]
  rintro _ _ ⟨rfl,v2,hv2,rfl⟩
  rw[opt_i] at hv2
  simp only[go_sem]
  with_reducible repeat' (first|rw[i64w (by omega)];try simp only[go_sem]|refine br ?_ ?_<;>intro h e<;>(try simp only[e,go_sem])<;>clear e|refine sd ?_<;>try simp only[go_sem]|fail)
  rw[hse,←hv2] at he
  exact⟨(k+1,v2),by simp only;omega,⟨by simp only;omega,by rw[hv2];exact hw1.through 4 hsn1,by rw[hv2];simp only;rw[(through_ext 4 v1 o1).len,hx1.len,hn],he⟩,(leQ [(1,107301),(2,107302),(200003,107303)])⟩
 ·simp only[eq_false h,go_sem]
  obtain rfl:k=n:=by omega
  rw[show(List.range k).drop k=[] by simp,List.foldl_nil] at he
  show retQ _ _ _ .ret _
  refine retN (.tup []) [.var 41 [.own 2 v.convs.length,.sl 3 (v.door.map.map Pair.row),.own 1 v.door.flows.length,.own 3 v.nets.length],.arr 181 8 (v.door.flows.map Flw.row),.arr 47 10 (v.convs.map Conv.row),.arr 70 7 (v.nets.map Pk.row)] [(3,200003)] (by simp only[go_sem,resL_0]) ⟨rfl,v,he.symm,rfl⟩ ?_ (by simp[argH,getN]) (by simp only[go_sem])
  simp only[go_sem]
def ic142:IC:=sR [oP 3 (.box 41 (.t 0)),oP 4 (.box 70 (.t 1)),oP 6 (.alloc 41 [.nils,.nils,.nils,.nils])] (.seq (sR [oP 7 (.mv (.c i0))] (.block 0 (.loop (.seq (sR [mV 8 2,mV 9 8,⟨some 10,some (9,true),.mv (.t 7)⟩,⟨some 11,some (9,true),.bin .lss (.t 10) (.c (.int .i64 4))⟩,oP 12 (.pick (.t 9) (.t 11) (.c (.bool false)))] (.cond (.t 12) .skip (.exit 0))) (.seq (.block 1 (.reg [lA 16 4 3,lA 17 7 4,oP 18 (.call 145 [.t 16,.t 17]),mV 15 18,eX 19 15 0,eX 20 15 1,eX 21 15 2,nP (.sto 4 (.t 3) (.t 19)),nP (.sto 7 (.t 4) (.t 20)),mV 2 21])) (.reg [mV 13 7,oP 14 (.bin .add (.t 13) (.c (.int .i64 1))),mV 7 14])))))) (sR [lA 22 4 3,nP (.sto 4 (.t 6) (.t 22))] .ret))
theorem dg142:Dg Tryz.prog 142 Tryz.f142 ic142 [(.cell 6 4 true)]:=⟨Tryz.func142,by kernel_rfl,by kernel_rfl⟩
theorem x142 {X:List (E×E)} (w:M.World) (p:Pk) (ok:Bool) (hw:WX X w) (hp:ok=true→NetX X w.convs p):FnP Tryz.prog G 142 0 [.arr 47 10 (w.convs.map Conv.row),.arr 88 3 (w.door.map.map Pair.row),.arr 181 8 (w.door.flows.map Flw.row),.arr 70 7 (w.nets.map Pk.row)] [.agg [.own 0 w.convs.length,.own 1 w.door.map.length,.own 2 w.door.flows.length,.own 3 w.nets.length],.agg [.int .i64 p.kind,.int .i64 p.frm.a,.int .i64 p.frm.p,.int .i64 p.to.a,.int .i64 p.to.p,.int .i64 p.at_,.str p.text],.bool ok] (worldA (through 4 w (bif ok then some p else none))):=by
 refine mP dg142 Tryz.ntmps142 ⟨_,_,rfl,rfl⟩ ?_
 simp only[ic142,go_sem]
 with_reducible repeat' (first|refine br ?_ ?_<;>intro h e<;>(try simp only[e,go_sem])<;>clear e|rw[i64w (by omega)]|refine sd ?_<;>try simp only[go_sem]|fail)
 refine loopN (fun a:Nat×M.World×Pk×Bool=>⟨getL [(2,.bool a.2.2.2),(3,.pv 1003 0),(4,.pv 1004 0),(6,.pv 1006 0),(7,.int .i64 (a.1:Int))],getH [(1003,.var 41 [.own 0 a.2.1.convs.length,.own 1 a.2.1.door.map.length,.own 2 a.2.1.door.flows.length,.own 3 a.2.1.nets.length]),(1004,.var 70 (Pk.row a.2.2.1)),(1006,.var 41 [.nils,.nils,.nils,.nils]),(0,.arr 47 10 (a.2.1.convs.map Conv.row)),(1,.arr 88 3 (a.2.1.door.map.map Pair.row)),(2,.arr 181 8 (a.2.1.door.flows.map Flw.row)),(3,.arr 70 7 (a.2.1.nets.map Pk.row))]⟩)
  (fun a=>4 - a.1) (fun a=>a.1≤4∧WX X a.2.1∧(a.2.2.2=true→NetX X a.2.1.convs a.2.2.1)∧through 4 w (bif ok then some p else none)=through (4 - a.1) a.2.1 (bif a.2.2.2 then some a.2.2.1 else none)) (0,w,p,ok) (leQ []) ⟨Nat.zero_le _,hw,hp,rfl⟩ ?_
 intro⟨n,v,q,b⟩ ⟨hn,hv,hq,he⟩
 simp only at hn hv hq he
 simp only[go_sem]
 cases b
 ·simp only[go_sem]
  rw[cond_false,through_none] at he
  rw[he]
  with_reducible repeat' (first|refine br ?_ ?_<;>intro h e<;>(try simp only[e,go_sem])<;>clear e|rw[i64w (by omega)]|refine sd ?_<;>try simp only[go_sem]|fail)
  exact worldRet (d:=6) (c:=1006) 0 1 2 3 (by simp only[go_sem]) (by simp only[go_sem]) (by simp only[go_sem]) (by simp only[go_sem]) (by simp only[go_sem]) (by simp only[go_sem]) (by decide)
 by_cases h:(n:Int)<4
 ·have hq:=hq rfl
  obtain⟨k1,k2⟩:=carry_X hv hq
  have e4:4 - n=(4 - (n+1))+1:=by omega
  rw[cond_true,e4] at he
  simp only[through] at he
  simp only[eq_true h,go_sem]
  with_reducible repeat' (first|refine br ?_ ?_<;>intro h e<;>(try simp only[e,go_sem])<;>clear e|rw[i64w (by omega)]|refine sd ?_<;>try simp only[go_sem]|fail)
  refine callU (x145 v q hv hq.pk) [0,1,2,3] [] 18 4 (by simp only[go_sem];first|done|simp) (by simp only[go_sem];first|done|simp) (by simp) (by simp) (by rintro _ _ ⟨rfl,rfl⟩;simp) (by intro i hi;rcases(show i=0∨i=1∨i=2∨i=3 by omega) with rfl|rfl|rfl|rfl<;>simp only[go_sem]) ?_
  rintro _ _ ⟨rfl,rfl⟩
  generalize carry v q=x at *
  obtain⟨v',o⟩:=x
  simp only at k1 k2 he
  simp only[go_sem]
  with_reducible repeat' (first|rw[i64w (by omega)];try simp only[go_sem]|refine br ?_ ?_<;>intro h e<;>(try simp only[e,go_sem])<;>clear e|refine sd ?_<;>try simp only[go_sem]|fail)
  exact⟨(n+1,v',o.getD .zero,o.isSome),by simp only;omega,⟨by simp only;omega,k1,fun hb=>k2 _ (by cases o with|none=>cases hb|some y=>rfl),by simp only;rw[opt_b];exact he⟩,(leQ [(0,101800),(1,101801),(2,101802),(3,101803)])⟩
 ·simp only[eq_false h,go_sem]
  have e0:4 - n=0:=by omega
  rw[e0,cond_true,show through 0 v (some q)=v from rfl] at he
  rw[he]
  with_reducible repeat' (first|refine br ?_ ?_<;>intro h e<;>(try simp only[e,go_sem])<;>clear e|rw[i64w (by omega)]|refine sd ?_<;>try simp only[go_sem]|fail)
  exact worldRet (d:=6) (c:=1006) 0 1 2 3 (by simp only[go_sem]) (by simp only[go_sem]) (by simp only[go_sem]) (by simp only[go_sem]) (by simp only[go_sem]) (by simp only[go_sem]) (by decide)
theorem sayW_e (w:M.World) {i:Nat} {c:Conv} (h:w.convs[i]?=some c):sayW w true i c.upAck 24=say c true 0 c.upAck 24∧sayW w false i c.downAck 24=say c false (portOf w.door.map c.ins) c.downAck 24:=by
 have hl:=(List.getElem?_eq_some_iff.1 h).1
 have hwi:within (i:Int) 0 ((w.convs.length:Int) - 1)=true:=M.within_iff.2 (by omega)
 unfold sayW
 simp only[hwi,Int.toNat_natCast,h]
 simp
def ic104:IC:=sR [oP 1 (.box 41 (.t 0)),oP 2 (.alloc 41 [.nils,.nils,.nils,.nils])] (sR [fD 10 3 1,lD 11 1 10,mV 3 11] (sR [oP 12 (.bsl 70 7 []),fD 13 3 1,nP (.sto 1 (.t 13) (.t 12))] (.seq (sR [oP 4 (.mv (.c i0))] (.block 0 (.loop (.seq (sR [mV 14 4,mV 15 3,oP 16 (.len (.t 15)),bN 17 .lss 14 16] (.cond (.t 17) .skip (.exit 0))) (.seq (.block 1 (.drw [0,0,0,6,14,31,63] [(0,lA 20 4 1),(1,mV 21 3),(2,mV 22 4),(3,oP 23 (.iad 7 (.t 21) (.t 22))),(4,lA 24 7 23),(5,oP 25 (.call 142 [.t 20,.t 24,.c (.bool true)])),(6,nP (.sto 4 (.t 1) (.t 25)))])) (.reg [mV 18 4,oP 19 (.bin .add (.t 18) (.c (.int .i64 1))),mV 4 19])))))) (.seq (sR [oP 5 (.mv (.c i0))] (.block 2 (.loop (.seq (sR [mV 26 5,fD 27 0 1,lD 28 1 27,oP 29 (.len (.t 28)),bN 30 .lss 26 29] (.cond (.t 30) .skip (.exit 2))) (.seq (.block 3 (.seq (.drw [0,0,0,4,0,28,60,124,254,511,1023,2047,2047,0,12287,32767] [(0,lA 34 4 1),(1,mV 35 5),(2,fD 36 0 1),(3,lD 37 1 36),(4,mV 38 5),(5,oP 39 (.iad 10 (.t 37) (.t 38))),(6,fD 40 6 39),(7,lD 41 1 40),(8,oP 42 (.build [i0,i0,i0,i0,i0,i0,i0,i0,i0,i0,s0] [(0,(1,.c (.int .i64 1))),(1,(1,.t 35)),(2,(1,.t 41)),(3,(1,.c (.int .i64 24)))])),(9,oP 43 (.call 105 [.t 34,.t 42])),(10,mV 33 43),(11,eX 44 33 0),(12,eX 45 33 1),(13,oP 6 (.alloc 70 [i0,i0,i0,i0,i0,i0,s0])),(14,nP (.sto 7 (.t 6) (.t 44))),(15,mV 7 45)]) (sR [lA 46 4 1,lA 47 7 6,mV 48 7,oP 49 (.call 142 [.t 46,.t 47,.t 48]),nP (.sto 4 (.t 1) (.t 49))] (.seq (.drw [0,0,0,4,0,28,60,124,254,511,1023,2047,2047,0,12287,32767] [(0,lA 51 4 1),(1,mV 52 5),(2,fD 53 0 1),(3,lD 54 1 53),(4,mV 55 5),(5,oP 56 (.iad 10 (.t 54) (.t 55))),(6,fD 57 7 56),(7,lD 58 1 57),(8,oP 59 (.build [i0,i0,i0,i0,i0,i0,i0,i0,i0,i0,s0] [(0,(1,.c (.int .i64 2))),(1,(1,.t 52)),(2,(1,.t 58)),(3,(1,.c (.int .i64 24)))])),(9,oP 60 (.call 105 [.t 51,.t 59])),(10,mV 50 60),(11,eX 61 50 0),(12,eX 62 50 1),(13,oP 8 (.alloc 70 [i0,i0,i0,i0,i0,i0,s0])),(14,nP (.sto 7 (.t 8) (.t 61))),(15,mV 9 62)]) (.reg [lA 63 4 1,lA 64 7 8,mV 65 9,oP 66 (.call 142 [.t 63,.t 64,.t 65]),nP (.sto 4 (.t 1) (.t 66))]))))) (.reg [mV 31 5,oP 32 (.bin .add (.t 31) (.c (.int .i64 1))),mV 5 32])))))) (sR [lA 67 4 1,nP (.sto 4 (.t 2) (.t 67))] .ret)))))
theorem dg104:Dg Tryz.prog 104 Tryz.f104 ic104 [(.cell 2 4 true)]:=⟨Tryz.func104,by kernel_rfl,by kernel_rfl⟩
set_option maxHeartbeats 1000000 in
theorem x104 {X:List (E×E)} (w:M.World) (hw:WX X w):FnP Tryz.prog G 104 0 [.arr 47 10 (w.convs.map Conv.row),.arr 88 3 (w.door.map.map Pair.row),.arr 181 8 (w.door.flows.map Flw.row),.arr 70 7 (w.nets.map Pk.row)] [.agg [.own 0 w.convs.length,.own 1 w.door.map.length,.own 2 w.door.flows.length,.own 3 w.nets.length]] (worldA (M.round w)):=by
 refine mP dg104 Tryz.ntmps104 ⟨_,_,rfl,rfl⟩ ?_
 have hnl:=hw.nl
 have hcl:=hw.cl
 simp only[ic104,go_sem]
 with_reducible repeat' (first|refine br ?_ ?_<;>intro h e<;>(try simp only[e,go_sem])<;>clear e|rw[i64w (by omega)]|refine sd ?_<;>try simp only[go_sem]|fail)
 refine loopN (fun a:Nat×M.World=>⟨getL [(1,.pv 1001 0),(2,.pv 1002 0),(3,.own 3 w.nets.length),(4,.int .i64 (a.1:Int))],getH [(1001,.var 41 [.own 0 a.2.convs.length,.own 1 a.2.door.map.length,.own 2 a.2.door.flows.length,.own 1012 a.2.nets.length]),(1002,.var 41 [.nils,.nils,.nils,.nils]),(0,.arr 47 10 (a.2.convs.map Conv.row)),(1,.arr 88 3 (a.2.door.map.map Pair.row)),(2,.arr 181 8 (a.2.door.flows.map Flw.row)),(1012,.arr 70 7 (a.2.nets.map Pk.row)),(3,.arr 70 7 (w.nets.map Pk.row))]⟩)
  (fun a=>w.nets.length - a.1) (fun a=>a.1≤w.nets.length∧WX X a.2∧Ext w a.2∧w.nets.foldl (fun w p=>through 4 w (some p)) { w with nets:=[] }=(w.nets.drop a.1).foldl (fun w p=>through 4 w (some p)) a.2) (0,{ w with nets:=[] }) (leQ []) ⟨Nat.zero_le _,hw.empty,.same rfl rfl,by simp⟩ ?_
 intro⟨k,v⟩ ⟨hk,hv,hx,he⟩
 simp only at hk hv hx he
 simp only[go_sem]
 by_cases h:(k:Int)<w.nets.length
 ·have hil:k<w.nets.length:=by omega
  have hg:w.nets.getD k default=w.nets[k]:=by simp[List.getD,hil]
  rw[List.drop_eq_getElem_cons hil,List.foldl_cons] at he
  have hnp:=(hw.net _ (List.getElem_mem hil)).ext hx
  generalize w.nets[k]=p at *
  simp only[eq_true h,go_sem]
  with_reducible repeat' (first|refine br ?_ ?_<;>intro h e<;>(try simp only[e,go_sem,getD_mp hil,hg])<;>clear e|rw[i64w (by omega)]|refine sd ?_<;>try simp only[go_sem,getD_mp hil,hg]|fail)
  refine callU (x142 v p true hv (fun _=>hnp)) [0,1,2,1012] [] 25 4 (by simp only[go_sem];first|done|simp) (by simp only[go_sem];first|done|simp) (by simp) (by simp) (by rintro _ _ ⟨rfl,rfl⟩;simp) (by intro i hi;rcases(show i=0∨i=1∨i=2∨i=3 by omega) with rfl|rfl|rfl|rfl<;>simp only[go_sem]) ?_
  rintro _ _ ⟨rfl,rfl⟩
  rw[cond_true]
  simp only[go_sem]
  have hv':WX X (through 4 v (some p)):=hv.through 4 (fun q hq=>by cases hq;exact hnp)
  have hx':=hx.trans (through_ext 4 v (some p))
  generalize through 4 v (some p)=v' at *
  with_reducible repeat' (first|rw[i64w (by omega)];try simp only[go_sem]|refine br ?_ ?_<;>intro h e<;>(try simp only[e,go_sem])<;>clear e|refine sd ?_<;>try simp only[go_sem]|fail)
  exact⟨(k+1,v'),by simp only;omega,⟨by simp only;omega,hv',hx',he⟩,(leQ [(0,102500),(1,102501),(2,102502),(1012,102503)])⟩
 simp only[eq_false h,go_sem]
 obtain rfl:k=w.nets.length:=by omega
 rw[List.drop_length,List.foldl_nil] at he
 have hrd:M.round w=(List.range v.convs.length).foldl sayRound v:=by rw[←he];rfl
 clear he hx h
 with_reducible repeat' (first|refine br ?_ ?_<;>intro h e<;>(try simp only[e,go_sem])<;>clear e|rw[i64w (by omega)]|refine sd ?_<;>try simp only[go_sem]|fail)
 have hvl:=hv.cl
 generalize hn:v.convs.length=n at *
 refine loopN (fun a:Nat×M.World=>⟨getL [(1,.pv 1001 0),(2,.pv 1002 0),(5,.int .i64 (a.1:Int))],getH [(1001,.var 41 [.own 0 a.2.convs.length,.own 1 a.2.door.map.length,.own 2 a.2.door.flows.length,.own 1012 a.2.nets.length]),(1002,.var 41 [.nils,.nils,.nils,.nils]),(0,.arr 47 10 (a.2.convs.map Conv.row)),(1,.arr 88 3 (a.2.door.map.map Pair.row)),(2,.arr 181 8 (a.2.door.flows.map Flw.row)),(1012,.arr 70 7 (a.2.nets.map Pk.row))]⟩)
  (fun a=>n - a.1) (fun a=>a.1≤n∧WX X a.2∧a.2.convs.length=n∧M.round w=((List.range n).drop a.1).foldl sayRound a.2) (0,v) (by rw[←hn];exact(leQ [])) ⟨Nat.zero_le _,hv,hn,by simpa using hrd⟩ ?_
 clear hrd hv hn v
 intro⟨k,v⟩ ⟨hk,hv,hn,he⟩
 simp only at hk hv hn he
 simp only[go_sem]
 by_cases h:(k:Int)<v.convs.length
 ·have hil:k<v.convs.length:=by omega
  have hg:v.convs.getD k default=v.convs[k]:=by simp[List.getD,hil]
  have hg2:=List.getElem?_eq_getElem hil
  have hB:∀(u:M.World),WX X u→∀c∈u.convs,c.up.length≤2000000∧c.down.length≤2000000:=fun u hu c hc=>by
   have hb:=convOk_B (hu.cv c hc)
   have h1:=hb.up
   have h2:=hb.down
   omega
  have hM:∀(u:M.World),WX X u→u.door.map.length≤2000000:=fun u hu=>by have:=(mapOk_ports (doorOk_iff.1 hu.door).1).2;omega
  have hcm:=List.getElem_mem hil
  rw[range_at (by omega),List.foldl_cons] at he
  generalize v.convs[k]=c at *
  have fs:=c105 v ⟨1,k,c.upAck,24,.zero⟩ (hM v hv) (by omega) (hB v hv)
  have hsn:∀p,say c true 0 c.upAck 24=some p→NetX X v.convs p:=fun p hp=>(say_net hcm (hv.cv c hcm) hp).x
  rw[show decide ((1:Int)=1)=true from rfl,(sayW_e v hg2).1] at fs
  generalize ho:say c true 0 c.upAck 24=o at *
  obtain⟨pfs,hpfs⟩:∃pfs,pfs=o.getD .zero:=⟨_,rfl⟩
  rw[←hpfs] at fs
  simp only[Pk.zero,E.zero] at fs
  simp only[eq_true h,go_sem]
  with_reducible repeat' (first|refine br ?_ ?_<;>intro h e<;>(try simp only[e,go_sem,getD_mp hil,hg])<;>clear e|rw[i64w (by omega)]|refine sd ?_<;>try simp only[go_sem,getD_mp hil,hg]|fail)
  refine callF fs [0,1,2,1012] false (by simp only[go_sem];first|done|simp[E.row,Pc.row,Pair.row,Part.row,Flw.row,Pk.row,Conv.row]) (by simp only[List.mem_cons,List.not_mem_nil,or_false];rintro c (rfl|rfl|rfl|rfl)<;>simp only[go_sem]) rfl (.inr rfl) ?_
  simp only[go_sem]
  with_reducible repeat' (first|refine br ?_ ?_<;>intro h e<;>(try simp only[e,go_sem])<;>clear e|rw[i64w (by omega)]|refine sd ?_<;>try simp only[go_sem]|fail)
  refine callU (x142 v pfs o.isSome hv (fun hb=>hsn _ (by rw[hpfs];cases o with|none=>cases hb|some y=>rfl))) [0,1,2,1012] [] 49 4 (by simp only[go_sem];first|done|simp) (by simp only[go_sem];first|done|simp) (by simp) (by simp) (by rintro _ _ ⟨rfl,rfl⟩;simp) (by intro i hi;rcases(show i=0∨i=1∨i=2∨i=3 by omega) with rfl|rfl|rfl|rfl<;>simp only[go_sem]) ?_
  rw[hpfs,opt_b]
  rintro _ _ ⟨rfl,rfl⟩
  simp only[go_sem]
  obtain⟨v1,hv1⟩:∃v1,v1=through 4 v o:=⟨_,rfl⟩
  rw[←hv1]
  have hw1:WX X v1:=by rw[hv1];exact hv.through 4 hsn
  have hx1:Ext v v1:=by rw[hv1];exact through_ext 4 _ _
  have hil1:k<v1.convs.length:=by rw[hx1.len];exact hil
  have hg1:v1.convs.getD k default=v1.convs[k]:=by simp[List.getD,hil1]
  have hg3:=List.getElem?_eq_getElem hil1
  have hcm1:=List.getElem_mem hil1
  have hcl1:=hw1.cl
  generalize v1.convs[k]=c1 at *
  have fs1:=c105 v1 ⟨2,k,c1.downAck,24,.zero⟩ (hM v1 hw1) (by omega) (hB v1 hw1)
  have hsn1:∀p,say c1 false (portOf v1.door.map c1.ins) c1.downAck 24=some p→NetX X v1.convs p:=fun p hp=>(say_net hcm1 (hw1.cv c1 hcm1) hp).x
  rw[show decide ((2:Int)=1)=false from rfl,(sayW_e v1 hg3).2] at fs1
  generalize ho1:say c1 false (portOf v1.door.map c1.ins) c1.downAck 24=o1 at *
  have hse:=sayRound_e hg2 ho hv1 hg3 ho1
  obtain⟨pfs1,hpfs1⟩:∃pfs1,pfs1=o1.getD .zero:=⟨_,rfl⟩
  rw[←hpfs1] at fs1
  simp only[Pk.zero,E.zero] at fs1
  with_reducible repeat' (first|refine br ?_ ?_<;>intro h e<;>(try simp only[e,go_sem,getD_mp hil1,hg1])<;>clear e|rw[i64w (by omega)]|refine sd ?_<;>try simp only[go_sem,getD_mp hil1,hg1]|fail)
  refine callF fs1 [104900,104901,104902,104903] false (by simp only[go_sem];first|done|simp[E.row,Pc.row,Pair.row,Part.row,Flw.row,Pk.row,Conv.row]) (by simp only[List.mem_cons,List.not_mem_nil,or_false];rintro c (rfl|rfl|rfl|rfl)<;>simp only[go_sem]) rfl (.inr rfl) ?_
  simp only[go_sem]
  with_reducible repeat' (first|refine br ?_ ?_<;>intro h e<;>(try simp only[e,go_sem])<;>clear e|rw[i64w (by omega)]|refine sd ?_<;>try simp only[go_sem]|fail)
  refine callU (x142 v1 pfs1 o1.isSome hw1 (fun hb=>hsn1 _ (by rw[hpfs1];cases o1 with|none=>cases hb|some y=>rfl))) [104900,104901,104902,104903] [] 66 4 (by simp only[go_sem];first|done|simp) (by simp only[go_sem];first|done|simp) (by simp) (by simp) (by rintro _ _ ⟨rfl,rfl⟩;simp) (by intro i hi;rcases(show i=0∨i=1∨i=2∨i=3 by omega) with rfl|rfl|rfl|rfl<;>simp only[go_sem]) ?_
  rw[hpfs1,opt_b]
  rintro _ _ ⟨rfl,rfl⟩
  simp only[go_sem]
  rw[hse] at he
  have hw2:WX X (through 4 v1 o1):=hw1.through 4 hsn1
  have hl2:=(through_ext 4 v1 o1).len
  generalize through 4 v1 o1=v2 at *
  with_reducible repeat' (first|rw[i64w (by omega)];try simp only[go_sem]|refine br ?_ ?_<;>intro h e<;>(try simp only[e,go_sem])<;>clear e|refine sd ?_<;>try simp only[go_sem]|fail)
  exact⟨(k+1,v2),by simp only;omega,⟨by simp only;omega,hw2,by simp only;rw[hl2,hx1.len,hn],he⟩,(leQ [(0,106600),(1,106601),(2,106602),(1012,106603)])⟩
 ·simp only[eq_false h,go_sem]
  obtain rfl:k=n:=by omega
  rw[show(List.range k).drop k=[] by simp,List.foldl_nil] at he
  rw[he]
  with_reducible repeat' (first|refine br ?_ ?_<;>intro h e<;>(try simp only[e,go_sem])<;>clear e|rw[i64w (by omega)]|refine sd ?_<;>try simp only[go_sem]|fail)
  exact worldRet (d:=2) (c:=1002) 0 1 2 1012 (by simp only[go_sem]) (by simp only[go_sem]) (by simp only[go_sem]) (by simp only[go_sem]) (by simp only[go_sem]) (by simp only[go_sem]) (by decide)
def ic58:IC:=sR [oP 2 (.box 41 (.t 0)),oP 4 (.alloc 41 [.nils,.nils,.nils,.nils])] (.seq (sR [lA 7 4 2,oP 8 (.call 102 [.t 7]),oP 9 (.un .not (.t 8)),mV 10 9,⟨some 11,some (10,false),.mv (.t 1)⟩,⟨some 12,some (10,false),.call 100 [.t 11,.c i0,.c (.int .i64 6)]⟩,⟨some 13,some (10,false),.un .not (.t 12)⟩,oP 14 (.pick (.t 10) (.c (.bool true)) (.t 13))] (.cond (.t 14) (sR [oP 15 (.build [.nils,.nils,.nils,.nils] []),nP (.sto 4 (.t 4) (.t 15))] .ret) .skip)) (sR [lA 16 4 2,oP 17 (.call 103 [.t 16]),oP 5 (.alloc 41 [.nils,.nils,.nils,.nils]),nP (.sto 4 (.t 5) (.t 17))] (.seq (sR [oP 6 (.mv (.c i0))] (.block 0 (.loop (.seq (sR [mV 18 6,mV 19 1,bN 20 .lss 18 19] (.cond (.t 20) .skip (.exit 0))) (.seq (.block 1 (.reg [lA 23 4 5,oP 24 (.call 104 [.t 23]),nP (.sto 4 (.t 5) (.t 24))])) (.reg [mV 21 6,oP 22 (.bin .add (.t 21) (.c (.int .i64 1))),mV 6 22])))))) (sR [lA 25 4 5,nP (.sto 4 (.t 4) (.t 25))] .ret))))
theorem dg58:Dg Tryz.prog 58 Tryz.f58 ic58 [(.cell 4 4 true)]:=⟨Tryz.func58,by kernel_rfl,by kernel_rfl⟩
end Go.Proofs.YtiegngjdjheebaaGreatDoor.W
