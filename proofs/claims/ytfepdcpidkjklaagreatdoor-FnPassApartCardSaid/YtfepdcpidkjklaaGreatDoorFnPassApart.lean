/- FnPassApart: what passes touches one flow alone. Conditions: those of the row alone. -/
import Derived.Test.YtfepdcpidkjklaaGreatDoorX07
import Derived.Test.YtfepdcpidkjklaaGreatDoorX04
import Derived.Test.YtfepdcpidkjklaaGreatDoorCards
import Derived.Test.YtfepdcpidkjklaaGreatDoorTie
set_option linter.all false
namespace Go.Proofs.YtfepdcpidkjklaaGreatDoor.W
open Go Go.RowKit Go.Proofs Go.Proofs.YtfepdcpidkjklaaGreatDoor.VL Go.Proofs.YtfepdcpidkjklaaGreatDoor.M
attribute [local congr] optK_congr guardK_congr condK_congr runT_congr runD_congr wpI_congr CallV_congr LoopI_congr pureK_congr effK_congr calK_congr stepV_congr doV_congr exN_congr exB_congr retF_congr retQ_congr gK_congr condW_congr ldK_congr stoK_congr
attribute [local go_sem] argL_cons argL_nil argH_nil argH_cons chH_getH wpI_seq wpI_reg wpI_drw wpI_ret cond_k condW_t condW_f wpI_skip wpI_block wpI_exit wpI_loop exN_n exN_r exN_e exB_n exB_r exB_h exB_m runT_k kT_e runT_nil runD_k kD_e runD_nil step_u step_k gK_t gK_f do_mv do_bino bo_add bo_sub bo_mul bo_subu bo_quo bo_rem bo_xor bo_eql bo_neq bo_lss bo_leq bo_gtr bo_geq bo_cat bo_eqs bo_nes do_pick do_call do_cal calK_f do_box do_alloc do_ldk ldK_s do_stok stoK_s do_fad do_nilc do_not do_neg do_len do_lens do_ext do_eqs do_beq do_isn do_cvi do_sls do_idx do_mn do_mx do_build do_mkf do_s2b do_b2s do_slv do_iad do_bsl do_mks do_app ev_t ev_c app_some app_none
attribute [local go_sem] List.nil_append List.cons_append List.append_nil getL_hit getL_miss getH_nil getH_hit getH_miss nm_eq ne_eq Nat.reduceEqDiff not_false_eq_true Nat.reduceAdd Nat.add_zero Nat.zero_add if_true if_false ite_true ite_false pureK_s effK_s optK_s gdV_t gdV_f gdV_s pick_b ge_iff_le gt_iff_lt cond_true cond_false fresh_k cells_agg cells_int cells_bool cells_str cells_own cells_sl cells_nils ld_pv ld_pa ld_ip ldVar_t ldVar_f ldArr_t ldArr_f ldRow_t ldRow_f ldA_s ld1_s fad_pv fad_pa fad_ip nilc_pv nilc_pa nilc_ip not_b neg_i cvi_i ext_t retF_n retF_r
attribute [local go_sem] resV_k rvs_nil rvs_t rvs_c fstO_s consO_s resK_s resL_1 resL_2 resL_3 resL_4  Option.some.injEq List.map_cons List.map_nil List.all_cons List.all_nil Bool.and_true Bool.and_self Bool.not_true Bool.not_false Option.map_some Option.map_none sls_s slsG_s loV_n loV_i hiV_n hiV_i idx_s mn_i mx_i s2b_s b2s_s bytO_s bytes_nil bytes_cons conB_s slv_sl slv_own slv_nils slvG_s slvN_s slvO_s iad_sl iadG_map take_map drop_map List.length_map iad_own iad_view iadO_a iadW_a mks_i rowO_nils rowO_sl rowO_own rowA_a eq_self appG_nils appG_own appO_a guardP_T mapA_s bld_nil mkf_nil bldF_e fill_nil fill_cons mkf_e lens_s len_nils len_sl len_own len_view isn_nile isn_erre List.getElem?_cons_zero List.getElem?_cons_succ List.length_cons List.length_nil decide_true decide_false Int.toNat_natCast Int.cast_ofNat_Int Int.reduceLT Int.reduceLE Int.reduceEq Int.reduceAdd Int.reduceSub Int.reduceMul Int.reduceNeg Int.reduceToNat List.getD_cons_zero List.getD_cons_succ not_true_eq_false not_false_eq_true Bool.false_eq_true Bool.true_eq_false reduceCtorEq
attribute [local go_sem] E.row Pc.row Pair.row Part.row Strm.row Flw.row Pk.row Door.row Conv.row World.row Ev.row rdV E.eta Pc.eta Pair.eta Part.eta Strm.eta Pk.eta Flw.eta Conv.eta Door.eta World.eta Ev.eta
attribute [local go_sem] sub_ok st_pv st_pa stVar_v stArr_a Nat.le_refl List.drop_zero List.drop_succ_cons List.take_succ_cons List.take_zero setR Nat.reduceLeDiff
attribute [local go_sem] wk_bot wk2_bot wk1_bot wk_undef wk_tup_e wk2_agg_e wk_agg_e wk1_fn_e wk2_fn_e wk_fn_e wkl_nil wkl_cons wkh_var_e wkh_arr_e wkh_fresh_e wkh_dead_v wkh_dead_a wkh_dead_d wk0_undef wk0_int wk0_bool wk0_str wk0_nils wk0_nils_sl wk0_nilp wk0_nile wk0_erre wk0_sl wk0_iptr wk0_own wk0_view wk0_pv wk0_pa fzA_a fzW_a fzP_v wk0_own_sl wk0_view_sl wk0_pv_iptr WkS_nil WkS_cons WkN_nil WkN_cons nonB_nil nonB_cons getN_nil getN_hit getN_miss pinOk_0 pinOk_s and_true true_and and_self
attribute [local go_sem] bot_int one_int unt_int clo_int bot_bool one_bool unt_bool clo_bool bot_str one_str unt_str clo_str bot_nils one_nils unt_nils clo_nils bot_nilp one_nilp unt_nilp clo_nilp bot_nile one_nile unt_nile clo_nile bot_erre one_erre unt_erre clo_erre bot_raw one_raw unt_raw clo_raw bot_sl one_sl unt_sl clo_sl bot_own one_own unt_own clo_own bot_view one_view unt_view clo_view bot_pv one_pv unt_pv clo_pv bot_pa one_pa unt_pa clo_pa bot_iptr one_iptr unt_iptr clo_iptr unt_agg unt_fn one_fn
attribute [local go_sem] rn_tup rn_agg rn2_agg rn_fn rn2_fn rnfn1 rn_bot rn2_bot rn1_bot rn0_int rn0_bool rn0_str rn0_nils rn0_nilp rn0_nile rn0_erre rn0_sl rn0_iptr rn0_own rn0_view rn0_pv rn0_pa hrn_var hrn_arr hrn_dead outU_nil outU_cons deads_nil deads_cons bk_ge bk_lt nsF_0 nsF_s chH_0 chH_s chH_n newN_e andB_s eqR_nil eqR_i eqR_b eqR_s mapX_f mapX_t eqs_a beq_f beq_t live_arr live_var nsl_nil nsl_cons Nat.reduceMul Nat.reduceLT Nat.zero_le Nat.not_lt_zero
attribute [local go_sem] mV lD lA fD bN eX oP nP sR i0 s0
def ic9:IC:=sR [oP 2 (.mv (.c (.bool false)))] (.seq (sR [mV 16 0,oP 17 (.len (.t 16)),oP 18 (.bin .gtr (.t 17) (.c (.int .i64 1048576)))] (.cond (.t 18) (sR [oP 2 (.mv (.c (.bool true)))] .ret) .skip)) (sR [mV 20 0,oP 21 (.call 37 [.t 20]),mV 19 21,eX 22 19 0,eX 23 19 1,oP 3 (.alloc 26 [.nils,.nils]),oP 4 (.alloc 30 [i0,i0,i0,i0,i0,i0,s0]),nP (.sto 2 (.t 3) (.t 22)),nP (.sto 7 (.t 4) (.t 23))] (sR [lA 25 2 3,lA 26 7 4,oP 27 (.call 38 [.t 25,.t 26]),mV 24 27,eX 28 24 0,eX 29 24 1,eX 30 24 2,oP 5 (.alloc 26 [.nils,.nils]),oP 6 (.alloc 30 [i0,i0,i0,i0,i0,i0,s0]),nP (.sto 2 (.t 5) (.t 28)),nP (.sto 7 (.t 6) (.t 29)),mV 7 30] (sR [lA 32 2 3,lA 33 7 4,oP 34 (.call 39 [.t 32,.t 33]),mV 31 34,eX 35 31 0,eX 36 31 1,eX 37 31 2,oP 8 (.alloc 26 [.nils,.nils]),oP 9 (.alloc 30 [i0,i0,i0,i0,i0,i0,s0]),nP (.sto 2 (.t 8) (.t 35)),nP (.sto 7 (.t 9) (.t 36)),mV 10 37] (.seq (sR [mV 38 10,mV 39 7,oP 40 (.beq true (.t 38) (.t 39)),mV 41 40,⟨some 42,some (41,false),.ld 7 true (.t 9)⟩,⟨some 43,some (41,false),.ld 7 true (.t 6)⟩,⟨some 44,some (41,false),.eqs true [.i,.i,.i,.i,.i,.i,.s] (.t 42) (.t 43)⟩,oP 45 (.pick (.t 41) (.c (.bool true)) (.t 44)),mV 46 45,⟨some 47,some (46,false),.ld 2 true (.t 8)⟩,⟨some 48,some (46,false),.ld 2 true (.t 5)⟩,⟨some 49,some (46,false),.call 19 [.t 47,.t 48]⟩,⟨some 50,some (46,false),.un .not (.t 49)⟩,oP 51 (.pick (.t 46) (.c (.bool true)) (.t 50)),mV 52 51,⟨some 53,some (52,false),.ld 2 true (.t 3)⟩,⟨some 54,some (52,false),.call 24 [.t 53]⟩,⟨some 55,some (52,false),.un .not (.t 54)⟩,oP 56 (.pick (.t 52) (.c (.bool true)) (.t 55)),mV 57 56,⟨some 58,some (57,false),.ld 7 true (.t 4)⟩,⟨some 59,some (57,false),.call 25 [.t 58]⟩,⟨some 60,some (57,false),.un .not (.t 59)⟩,oP 61 (.pick (.t 57) (.c (.bool true)) (.t 60))] (.cond (.t 61) (sR [mV 62 10,mV 63 7,oP 64 (.beq false (.t 62) (.t 63)),mV 65 64,⟨some 66,some (65,true),.ld 7 true (.t 9)⟩,⟨some 67,some (65,true),.ld 7 true (.t 6)⟩,⟨some 68,some (65,true),.eqs false [.i,.i,.i,.i,.i,.i,.s] (.t 66) (.t 67)⟩,oP 69 (.pick (.t 65) (.t 68) (.c (.bool false))),mV 70 69,⟨some 71,some (70,true),.ld 2 true (.t 8)⟩,⟨some 72,some (70,true),.ld 2 true (.t 5)⟩,⟨some 73,some (70,true),.call 19 [.t 71,.t 72]⟩,oP 74 (.pick (.t 70) (.t 73) (.c (.bool false))),mV 2 74] .ret) .skip)) (sR [oP 11 (.mv (.c i0))] (.seq (sR [oP 12 (.mv (.c i0))] (.block 0 (.loop (.seq (sR [mV 75 12,fD 76 1 3,lD 77 1 76,oP 78 (.len (.t 77)),bN 79 .lss 75 78] (.cond (.t 79) .skip (.exit 0))) (.seq (.block 1 (sR [fD 82 1 3,lD 83 1 82,mV 84 12,oP 85 (.iad 8 (.t 83) (.t 84)),lA 86 8 85,oP 13 (.alloc 46 [i0,i0,i0,i0,s0,.nils,s0,.nils]),nP (.sto 8 (.t 13) (.t 86))] (sR [fD 87 1 8,lD 88 1 87,mV 89 12,oP 90 (.iad 8 (.t 88) (.t 89)),lA 91 8 90,oP 14 (.alloc 46 [i0,i0,i0,i0,s0,.nils,s0,.nils]),nP (.sto 8 (.t 14) (.t 91))] (.seq (sR [fD 92 0 13,lA 93 2 92,fD 94 0 14,lA 95 2 94,oP 96 (.eqs true [.i,.i] (.t 93) (.t 95)),mV 97 96,⟨some 98,some (97,false),.fad 2 (.t 13)⟩,⟨some 99,some (97,false),.ld 2 true (.t 98)⟩,⟨some 100,some (97,false),.fad 2 (.t 14)⟩,⟨some 101,some (97,false),.ld 2 true (.t 100)⟩,⟨some 102,some (97,false),.eqs true [.i,.i] (.t 99) (.t 101)⟩,oP 103 (.pick (.t 97) (.c (.bool true)) (.t 102))] (.cond (.t 103) (sR [oP 2 (.mv (.c (.bool false)))] .ret) .skip)) (sR [fD 104 4 13,lA 105 2 104,fD 106 4 14,lA 107 2 106,oP 108 (.call 35 [.t 105,.t 107]),oP 109 (.un .not (.t 108)),mV 110 109,⟨some 111,some (110,false),.fad 6 (.t 13)⟩,⟨some 112,some (110,false),.ld 2 true (.t 111)⟩,⟨some 113,some (110,false),.fad 6 (.t 14)⟩,⟨some 114,some (110,false),.ld 2 true (.t 113)⟩,⟨some 115,some (110,false),.call 35 [.t 112,.t 114]⟩,⟨some 116,some (110,false),.un .not (.t 115)⟩,oP 117 (.pick (.t 110) (.c (.bool true)) (.t 116))] (.cond (.t 117) (sR [mV 118 11,oP 119 (.bin .add (.t 118) (.c (.int .i64 1))),mV 11 119] (sR [fD 120 0 13,lA 121 2 120,fD 122 1 4,lA 123 2 122,oP 124 (.eqs true [.i,.i] (.t 121) (.t 123)),mV 125 124,⟨some 126,some (125,true),.fad 2 (.t 13)⟩,⟨some 127,some (125,true),.ld 2 true (.t 126)⟩,⟨some 128,some (125,true),.fad 1 (.t 4)⟩,⟨some 129,some (125,true),.ld 2 true (.t 128)⟩,⟨some 130,some (125,true),.eqs true [.i,.i] (.t 127) (.t 129)⟩,oP 131 (.pick (.t 125) (.t 130) (.c (.bool false)))] (.cond (.t 131) (sR [oP 2 (.mv (.c (.bool false)))] .ret) .skip))) .skip)))))) (.reg [mV 80 12,oP 81 (.bin .add (.t 80) (.c (.int .i64 1))),mV 12 81])))))) (sR [fD 132 0 3,lD 133 1 132,oP 134 (.len (.t 133)),mV 15 134] (.seq (.drw [0,1,3,7,15,31,7,71,199,455,1023,2047,4095,8191,16383,32767,8191,131071,262143,524287,1048575,2097151,1048575,8388607,1048575,17825791,67108863,134217727,268435455,536870911,1073741823,2147483647,4294967295] [(0,mV 135 11),(1,oP 136 (.bin .leq (.t 135) (.c (.int .i64 1)))),(2,mV 137 136),(3,⟨some 138,some (137,true),.fad 1 (.t 8)⟩),(4,⟨some 139,some (137,true),.ld 1 false (.t 138)⟩),(5,⟨some 140,some (137,true),.len (.t 139)⟩),(6,⟨some 141,some (137,true),.fad 1 (.t 3)⟩),(7,⟨some 142,some (137,true),.ld 1 false (.t 141)⟩),(8,⟨some 143,some (137,true),.len (.t 142)⟩),(9,⟨some 144,some (137,true),.bin .add (.t 143) (.c (.int .i64 1))⟩),(10,⟨some 145,some (137,true),.bin .leq (.t 140) (.t 144)⟩),(11,oP 146 (.pick (.t 137) (.t 145) (.c (.bool false)))),(12,mV 147 146),(13,⟨some 148,some (147,true),.fad 0 (.t 8)⟩),(14,⟨some 149,some (147,true),.ld 1 false (.t 148)⟩),(15,⟨some 150,some (147,true),.len (.t 149)⟩),(16,⟨some 151,some (147,true),.mv (.t 15)⟩),(17,⟨some 152,some (147,true),.bin .geq (.t 150) (.t 151)⟩),(18,oP 153 (.pick (.t 147) (.t 152) (.c (.bool false)))),(19,mV 154 153),(20,⟨some 155,some (154,true),.fad 0 (.t 8)⟩),(21,⟨some 156,some (154,true),.ld 1 false (.t 155)⟩),(22,⟨some 157,some (154,true),.mv (.t 15)⟩),(23,⟨some 158,some (154,true),.slv 3 (.t 156) none (some (.t 157))⟩),(24,⟨some 159,some (154,true),.fad 0 (.t 3)⟩),(25,⟨some 160,some (154,true),.ld 1 false (.t 159)⟩),(26,⟨some 161,some (154,true),.call 31 [.t 158,.t 160]⟩),(27,oP 162 (.pick (.t 154) (.t 161) (.c (.bool false)))),(28,mV 163 162),(29,⟨some 164,some (163,true),.ld 2 true (.t 8)⟩),(30,⟨some 165,some (163,true),.call 20 [.t 164]⟩),(31,oP 166 (.pick (.t 163) (.t 165) (.c (.bool false)))),(32,mV 2 166)]) .ret)))))))))
theorem dg9:Dg Tryz.prog 9 Tryz.f9 ic9 [(.t 2)]:=⟨Tryz.func9,by kernel_rfl,by kernel_rfl⟩
theorem c9 (code:B):FnR Tryz.prog G 9 [.sl 1 (code.map byR)] (.bool true):=by
  refine mF dg9 Tryz.ntmps9 ?_
  simp only [ic9,go_sem]
  by_cases hc:(1048576:Int)<code.length
  · simp only [eq_true hc,go_sem]
  simp only [eq_false hc,go_sem]
  refine callO (c37 code (by omega)) [] 21 0 (by simp only [go_sem];first|done|simp) (by simp) (by rintro _ _ ⟨_,_,_,_,_,rfl⟩;simp) (by intro i hi;omega) ?_
  rintro _ _ ⟨d,p,⟨hb,hl3,hq⟩,hpl,rfl,rfl⟩
  simp only [go_sem]
  have f1:=c38 d p hb (fun _=>hl3) (by omega)
  have f2:=c39 d p hb (by omega)
  have xb:=doorPass_db d p
  have hyes:=fun r (h:(doorPass d p).2=some r)=>doorPass_yes h
  obtain ⟨⟨x,o⟩,hx⟩:∃ y,doorPass d p=y:=⟨_,rfl⟩
  rw [hx] at f1 f2 xb hyes
  have f3:=l19 x xb
  simp only at f1 f2 f3 hyes xb
  have f4:=c24 d hb
  have f5:=c25 p (by omega)
  have all:∀ b:Bool,(b == b)=true:=by decide
  generalize hbs:o.isSome=b at *
  generalize hrs:o.getD .zero=r at *
  cases hd:doorOk d
  · rw [hd] at f4
    with_reducible repeat' (first|refine br ?_ ?_<;>intro h e<;>(try simp only [e,go_sem,all])<;>clear e|rw [i64w (by omega)]|refine sd ?_<;>try simp only [go_sem,all]|(first|refine cr (f1 ..) ?_|refine cr (f2 ..) ?_|refine cr (f3 ..) ?_|refine cr (f4 ..) ?_)<;>try simp only [go_sem,all]|fail)
  rw [hd] at f4
  cases hp:pkOk p
  · rw [hp] at f5
    with_reducible repeat' (first|refine br ?_ ?_<;>intro h e<;>(try simp only [e,go_sem,all])<;>clear e|rw [i64w (by omega)]|refine sd ?_<;>try simp only [go_sem,all]|(first|refine cr (f1 ..) ?_|refine cr (f2 ..) ?_|refine cr (f3 ..) ?_|refine cr (f4 ..) ?_|refine cr (f5 ..) ?_)<;>try simp only [go_sem,all]|fail)
  rw [hp] at f5
  have hxi:dPass d p=(x,o):=by rw [← hx];unfold doorPass;rw [if_pos (by rw [hd,hp];rfl)]
  obtain ⟨e1,e2,e3,⟨y,e4⟩,k,e5⟩:=law_apart hd hp
  rw [hxi] at e1 e2 e3 e4 e5
  simp only at e1 e2 e3 e4 e5
  have hml:=(mapOk_ports (doorOk_iff.1 e1).1).2
  have hfl4:=(doorOk_iff.1 e1).2.1
  have f6:=c31 d.map hb.1
  have f7:=c20 x xb
  rw [e1] at f7
  have hmt:x.map.take d.map.length=d.map:=by rw [e4];simp
  have hmll:d.map.length≤x.map.length:=by rw [e4];simp
  with_reducible repeat' (first|refine br ?_ ?_<;>intro h e<;>(try simp only [e,go_sem,all])<;>clear e|rw [i64w (by omega)]|refine sd ?_<;>try simp only [go_sem,all]|(first|refine cr (f1 ..) ?_|refine cr (f2 ..) ?_|refine cr (f3 ..) ?_|refine cr (f4 ..) ?_|refine cr (f5 ..) ?_)<;>try simp only [go_sem,all]|fail)
  refine loopN (fun a:Nat × Nat=>⟨getL [(3,.pv 1003 0),(4,.pv 1004 0),(8,.pv 1008 0),(11,.int .i64 (a.2:Int)),(12,.int .i64 (a.1:Int))],getH [(1003,.var 26 [.sl 3 (d.map.map Pair.row),.sl 8 (d.flows.map Flw.row)]),(1004,.var 30 (Pk.row p)),(1008,.var 26 [.sl 3 (x.map.map Pair.row),.sl 8 (x.flows.map Flw.row)])]⟩) (fun a=>d.flows.length - a.1) (fun a=>a.1≤d.flows.length∧a.2≤1∧(a.1≤k→a.2=0)) (0,0) (leQ []) ⟨Nat.zero_le _,by simp,fun _=>rfl⟩ ?_
  intro ⟨i,c⟩ ⟨hi,hc1,hck⟩
  simp only at hi hc1 hck
  simp only [go_sem]
  by_cases h:(i:Int)<d.flows.length
  · have hil:i<d.flows.length:=by omega
    have hil2:i<x.flows.length:=by omega
    have hg:d.flows.getD i default=d.flows[i]:=by simp [List.getD,hil]
    have hg2:x.flows.getD i default=x.flows[i]:=by simp [List.getD,hil2]
    obtain ⟨i1,i2,i3,i4⟩:=e5 i _ _ (List.getElem?_eq_getElem hil) (List.getElem?_eq_getElem hil2)
    have hs1:=hb.2.2 _ (List.getElem_mem hil)
    have hs2:=xb.2.2 _ (List.getElem_mem hil2)
    generalize hF:d.flows[i]=f at *
    generalize hH:x.flows[i]=g at *
    have f8:=g35 f.up g.up hs1.1.2.1 hs2.1.2.1
    have f9:=g35 f.down g.down hs1.2.2.1 hs2.2.2.1
    have n1:∀ {a b:E},¬ a=b→(decide (a.a=b.a) && decide (a.p=b.p))=false:=fun {a b} h=>by
      rw [Bool.and_eq_false_iff,decide_eq_false_iff_not,decide_eq_false_iff_not]
      by_cases h1:a.a=b.a
      · exact .inr fun h2=>h (by cases a;cases b;simp_all)
      · exact .inl h1
    by_cases hgf:g=f
    · subst hgf
      simp only [decide_true] at f8 f9
      simp only [eq_true h,go_sem]
      with_reducible repeat' (first|rw [i64w (by omega)];try simp only [go_sem,hg,hg2]|refine br ?_ ?_<;>intro h e<;>(try simp only [e,go_sem,hg,hg2])<;>clear e|refine sd ?_<;>try simp only [go_sem,hg,hg2]|(first|refine cr (f8 ..) ?_|refine cr (f9 ..) ?_)<;>try simp only [go_sem,hg,hg2]|fail)
      exact ⟨(i+1,c),by simp only;omega,⟨by simp only;omega,hc1,fun h=>hck (by simp only at h;omega)⟩,(leQ [])⟩
    · have hik:i=k:=Classical.byContradiction fun hne=>hgf (i3 hne)
      have hc0:c=0:=hck (by omega)
      subst hc0
      have hst:¬ (f.up=g.up∧f.down=g.down):=fun ⟨a,b⟩=>hgf (by cases f;cases g;simp_all)
      have hor:=i4 hgf
      have hpe:(decide (p.frm=f.ins) || decide (p.frm=f.out))=true:=by simp;rcases hor with h|h<;>simp [h]
      simp only [eq_true h,go_sem]
      have sel:(decide (f.ins.a=p.frm.a) && decide (f.ins.p=p.frm.p))=true∨(decide (f.out.a=p.frm.a) && decide (f.out.p=p.frm.p))=true:=by
        rcases hor with h|h<;>simp [h]
      generalize hq1:decide (f.up=g.up)=q1 at *
      generalize hq2:decide (f.down=g.down)=q2 at *
      have hq:q1=false∨q2=false:=by
        cases q1<;>cases q2<;>simp_all
      with_reducible repeat' (first|rw [i64w (by omega)];try simp only [go_sem,hg,hg2,i1,i2]|refine br ?_ ?_<;>intro h e<;>(try simp only [e,go_sem,hg,hg2,i1,i2])<;>clear e|refine sd ?_<;>try simp only [go_sem,hg,hg2,i1,i2]|(first|refine cr (f8 ..) ?_|refine cr (f9 ..) ?_)<;>try simp only [go_sem,hg,hg2,i1,i2]|fail)
      all_goals first
        | exact ⟨(i+1,1),by simp only;omega,⟨by simp only;omega,by simp,fun h=>by simp only at h;omega⟩,(leQ [])⟩
        | exact ⟨(i+1,0),by simp only;omega,⟨by simp only;omega,by simp,fun h=>by simp only at h;omega⟩,(leQ [])⟩
        | (simp_all;done)
        | trace_state
  · simp only [eq_false h,go_sem]
    with_reducible repeat' (first|rw [i64w (by omega)];try simp only [go_sem,hmt]|refine br ?_ ?_<;>intro h e<;>(try simp only [e,go_sem,hmt])<;>clear e|refine sd ?_<;>try simp only [go_sem,hmt]|(first|refine cr (f6 ..) ?_|refine cr (f7 ..) ?_)<;>try simp only [go_sem,hmt]|fail)
    all_goals first|done|omega|(simp_all;done)|trace_state
end Go.Proofs.YtfepdcpidkjklaaGreatDoor.W
namespace Go.Proofs.YtfepdcpidkjklaaGreatDoor.fnPassApart
open Go Go.ChangeShapes Go.WideShapes Go.ChangeAt Go.RowKit Go.Proofs.YtfepdcpidkjklaaGreatDoor.W
theorem walk (v0:Value) (W:World) (hs:W.ShapedOpen Tryz.prog) (hL:laidMetH Tryz.prog Rows.fnPassApartRow.laid W) (hv0:∃ code:M.B,VL.Den W noO noρ noH (.sl 1 (code.map M.byR)) v0) :
    Calls Tryz.prog 9 #[v0] W fun e W'=>e=.returned (.bool true)∧Below W.heap.size W W':=by
  obtain ⟨code,hdv0⟩:=hv0
  have:=Go.Proofs.YtfepdcpidkjklaaGreatDoor.W.FnR.calls (c9 code) (us:=[v0]) (gOk rfl hL hs) ⟨rfl,fun j a b ha hb=>by
    match j,ha,hb with
    | 0,ha,hb=>cases ha;cases hb;exact hdv0
    | j+1,ha,hb=>simp at ha⟩
  exact this
set_option maxRecDepth 100000 in
theorem contract (H:Type) (enc:TypeId × Value→H) (W:World) (base:Nat) (args:Array Value) (ds gs:List (DataW H)) (before:List MemPlace)
    (hval:∀ (j:Nat) t v,Tryz.f9.params[j]?=some t→args[j]?=some v→Value.okWide Tryz.prog W .any base t v)
    (hW:DataW.Whole enc Tryz.prog Tryz.f9.params.toList Rows.fnPassApartSpec.vars false W args.toList ds gs before) (hL:laidMetH Tryz.prog Rows.fnPassApartRow.laid W) (hs:W.ShapedOpen Tryz.prog) :
    Calls Tryz.prog 9 args W fun e W'=>∃ v,e=.returned v∧Rows.fnPassApartSpec.post enc Tryz.prog Tryz.f9 false true false false W args v W':=by
  have hW':=hW
  obtain ⟨p,q,hA0,hV,rfl,hfz,hnd⟩:=hW
  have hA:DataW.TrodAll enc Tryz.prog W 0 (fun _=>true) true Tryz.f9.params.toList args.toList ds p:=hA0
  rw [Tryz.params9] at hA hval
  obtain ⟨v0,r0s,d0,d0s,p0,q0,hargs0,rfl,rfl,h0,r0⟩:=trodAll_cons hA
  obtain ⟨e1,e2,e3⟩:=trodAll_nil r0
  subst e1 e2 e3
  obtain rfl:args=#[v0]:=by cases args;simp_all
  obtain ⟨rfl,rfl⟩:=trodVars_none hV
  obtain ⟨a0,len0,cap0,hv0⟩:=okWide_slice Tryz.underlying22 (hval 0 22 v0 rfl rfl)
  have k0:=h0
  have lt0:∀ x∈p0,x.block<W.heap.size:=by obtain ⟨m,hm⟩:=k0;exact DataW.trod_lt m _ _ _ hm
  have hc0:=open_code h0 ⟨a0,len0,cap0,hv0⟩
  clear hA0
  refine (walk v0 W hs hL hc0).mono fun e W' ⟨he,bel⟩=>?_
  subst he
  exact ⟨_,rfl,_,_,_,[],_,[],hW',trodAll_mk1 (shut_bool Tryz.underlying4 _),(trodAll_cons_mk (Below.trod laidOut (by kernel_rfl) (of_decide_eq_true (by kernel_rfl)) k0 bel lt0) trodAll_mk0),rfl,bel.frame _,fun h=>by cases h⟩
theorem inP:(Rows.fnPassApartRow.inPlace == Tryz.prog.inPlace 9)=true:=by kernel_rfl
theorem unf:(Rows.fnPassApartRow.unfollowed == Tryz.prog.unfollowed 9)=true:=by kernel_rfl
theorem rcs:(Rows.fnPassApartRow.recurses == Tryz.prog.recurses 9)=true:=by kernel_rfl
theorem nam:(Rows.fnPassApartRow.named == Tryz.prog.varsNamed 9)=true:=by kernel_rfl
theorem lif:(Rows.fnPassApartRow.lifted == Tryz.prog.liftsFinal)=true:=lifF
theorem pke:(Rows.fnPassApartRow.plainKeys == Tryz.prog.plainKeys)=true:=pkeF
theorem mak:(Tryz.prog.make == some Rows.fnPassApartRow.make)=true:=makF
theorem closed0:joinedFacts Tryz.prog 9 Tryz.f9 Rows.fnPassApartSpec Rows.fnPassApartRow=true:=by
  unfold joinedFacts
  rw [laidOut,mapF,inP,unf,rcs,nam,pke,stoF,mayF,lif,mak]
  kernel_rfl
theorem closed:joinedFacts Tryz.pinned.checked.prog 9 Tryz.f9 (OpenSpec.ofChange Rows.fnPassApartSpec).bare Rows.fnPassApartRow=true :=
  (show joinedFacts Tryz.pinned.checked.prog 9 Tryz.f9 (OpenSpec.ofChange Rows.fnPassApartSpec).bare Rows.fnPassApartRow=joinedFacts Tryz.prog 9 Tryz.f9 Rows.fnPassApartSpec Rows.fnPassApartRow by kernel_rfl).trans closed0
theorem door_met (os:Os) (args:Array Value):laidMetH Tryz.prog Rows.fnPassApartRow.laid ((World.doorLaid Tryz.prog 400 os).forCall (fun _ _=>0) ⟨#[],args,[]⟩).memory :=
  laidMetH_of_parts3 (fuel:=8) (laidMet_of_run' 8 (by kernel_rfl) (by kernel_rfl)) (by kernel_rfl) (by kernel_rfl)
theorem reads (os:Os) {H:Type} (enc:TypeId × Value→H):∃ places,DataW.whole enc Tryz.prog ((World.doorLaid Tryz.prog 400 os).forCall (fun _ _=>0) ⟨#[],#[.slice none 0 0],[]⟩).memory Tryz.f9.params.toList Rows.fnPassApartSpec.vars false #[Value.slice none 0 0].toList 8=some ([.nil],[],places) :=
  ⟨[],by kernel_rfl⟩
set_option maxRecDepth 100000 in
theorem lifted (os:Os) (started:os.Started) (H:Type) (enc:TypeId × Value→H) (F:Stop.Interp) :
    ReturnsInHanded {} Tryz.checked os 9 .any ((OpenSpec.ofChange Rows.fnPassApartSpec).preRow enc Tryz.prog Tryz.f9 Rows.fnPassApartRow.domain false Rows.fnPassApartRow.laid) (((OpenSpec.ofChange Rows.fnPassApartSpec).at F).post enc Tryz.prog Tryz.f9 false true false false):=by
  obtain ⟨places,hx⟩:=reads os enc
  refine returnsInHanded_of_row (C:=Tryz.checked) (s:=OpenSpec.ofChange Rows.fnPassApartSpec) own started (by kernel_rfl) Tryz.func9
    (witness_row_atRef (enc:=enc) (C:=Tryz.checked) false (World.doorLaid Tryz.prog 400 os) #[.slice none 0 0] rfl (by kernel_rfl) (by kernel_rfl) (by kernel_rfl)
      (OpenSpec.preRow_of_cond 8 hx (by kernel_rfl) (fun k hk=>by cases hk) (by kernel_rfl) (door_met os _))) ?_
  intro W base args ds gs before hval hW _ _ _ hL hs _
  exact contract H enc W base args ds gs before hval hW hL hs
theorem said:Rows.FnPassApartSaid :=
  OpenClaim.holds_of_cond 9 Tryz.f9 rfl rfl rfl rfl rfl rfl rfl ⟨rfl,rfl,rfl,rfl,rfl⟩ rfl rfl rfl rfl rfl (by kernel_rfl) Tryz.func9 closed
    (of_decide_eq_true (by kernel_rfl)) (by unfold Func.isWrapper;first|(rw [if_pos (by decide +kernel)];kernel_rfl)|(rw [if_neg (by decide +kernel)];exact ⟨rfl,rfl⟩))
    (fun os started H enc _ F=>by rw [OpenClaim.pre_eq_preRow];exact lifted os started H enc F)
theorem plain (f:FuncId) (fn:Func) (hf:Tryz.pinned.checked.prog.funcNamed "loop.example/ostiary/laws.FnPassApart"=some f) (hfn:Tryz.pinned.checked.prog.funcs[f]?=some fn) :
    true=Tryz.pinned.checked.prog.looks []∧∀ (j:Nat) t,fn.params[j]?=some t→Tryz.pinned.checked.prog.wantsStandIn t=false:=by
  obtain rfl:f=9:=Option.some.inj ((show Tryz.prog.funcNamed "loop.example/ostiary/laws.FnPassApart"=some 9 by kernel_rfl).symm.trans hf) |>.symm
  obtain rfl:fn=Tryz.f9:=(Option.some.inj (Tryz.func9.symm.trans hfn)).symm
  refine ⟨by kernel_rfl,fun j t ht=>?_⟩
  rw [Tryz.params9] at ht
  obtain rfl:t=22:=by simpa using Array.mem_of_getElem? ht
  exact (show Tryz.prog.wantsStandIn 22=false by kernel_rfl)
theorem card:Rows.FnPassApartCardSaid :=
  Claim7.holds_tied_plain_at .later [] _ _ _ _ said (fun _ h=>by cases h) (by kernel_rfl) (fun _ h=>by cases h) fnPassApart_row_tie rfl ⟨rfl,rfl⟩ (by kernel_rfl) rfl plain (by kernel_rfl)
end Go.Proofs.YtfepdcpidkjklaaGreatDoor.fnPassApart
