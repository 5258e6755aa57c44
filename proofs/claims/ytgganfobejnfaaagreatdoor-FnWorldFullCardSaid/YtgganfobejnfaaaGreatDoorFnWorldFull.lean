/- FnWorldFull: with ports for nobody more nobody new is named. Conditions: those of the row alone. -/
import Derived.Test.YtgganfobejnfaaaGreatDoorX03
import Derived.Test.YtgganfobejnfaaaGreatDoorX07
import Derived.Test.YtgganfobejnfaaaGreatDoorX04
import Derived.Test.YtgganfobejnfaaaGreatDoorCards
import Derived.Test.YtgganfobejnfaaaGreatDoorTie
set_option linter.all false
namespace Go.Proofs.YtgganfobejnfaaaGreatDoor.M
def fullOne (b:UInt8):Conv:=⟨⟨1,1⟩,⟨4,4⟩,[64,49,58,b,59,64,50,58,b,59,64,51,58,b,59,64,49,58,57,59],[],0,0,[],[]⟩
def fullTwo:Conv:=⟨⟨2,1⟩,⟨5,5⟩,[64,49,58,56,59,64,50,58,56,59,64,51,58,56,59,64,51,58,57,59],[97],0,0,[],[]⟩
def fullW (b:UInt8):World:=(worldNew [fullOne b,fullTwo]).getD .zero
def fullP (b:UInt8):Bool:=(worldNew [fullOne b,fullTwo]).isSome && decide (rounds 1 (rounds 6 (fullW b))=rounds 6 (fullW b)) && decide (((rounds 6 (fullW b)).convs[0]?).map (·.upAck)=some 20)
theorem law_full {b:UInt8} (h:b∈[50,51,52,53,54]):worldNew [fullOne b,fullTwo]=some (fullW b)∧SI CK CN (fullW b)∧rounds 1 (rounds 6 (fullW b))=rounds 6 (fullW b)∧∃ c,(rounds 6 (fullW b)).convs[0]?=some c∧c.upAck=20:=by
  have key:∀ b∈([50,51,52,53,54]:List UInt8),fullP b=true:=by decide +kernel
  have:=key b h
  simp only [fullP,Bool.and_eq_true,decide_eq_true_eq] at this
  obtain ⟨⟨h1,h2⟩,h3⟩:=this
  obtain ⟨w,hw⟩:=Option.isSome_iff_exists.1 h1
  have e:fullW b=w:=by rw [fullW,hw];rfl
  obtain ⟨c,hc1,hc2⟩:=Option.map_eq_some_iff.1 h3
  refine ⟨by rw [hw,e], ?_,h2,c,hc1,hc2⟩
  refine play_calm (cs:=[fullOne b,fullTwo]) (es:=[]) ?_
  rw [worldPlay,hw,e]
  rfl
end Go.Proofs.YtgganfobejnfaaaGreatDoor.M
namespace Go.Proofs.YtgganfobejnfaaaGreatDoor.W
open Go Go.RowKit Go.Proofs Go.Proofs.YtgganfobejnfaaaGreatDoor.VL Go.Proofs.YtgganfobejnfaaaGreatDoor.M
attribute [local congr] optK_congr guardK_congr condK_congr runT_congr runD_congr wpI_congr CallV_congr LoopI_congr pureK_congr effK_congr calK_congr stepV_congr doV_congr exN_congr exB_congr retF_congr retQ_congr gK_congr condW_congr ldK_congr stoK_congr
attribute [local go_sem] argL_cons argL_nil argH_nil argH_cons chH_getH wpI_seq wpI_reg wpI_drw wpI_ret cond_k condW_t condW_f wpI_skip wpI_block wpI_exit wpI_loop exN_n exN_r exN_e exB_n exB_r exB_h exB_m runT_k kT_e runT_nil runD_k kD_e runD_nil step_u step_k gK_t gK_f do_mv do_bino bo_add bo_sub bo_mul bo_subu bo_quo bo_rem bo_xor bo_eql bo_neq bo_lss bo_leq bo_gtr bo_geq bo_cat bo_eqs bo_nes do_pick do_call do_cal calK_f do_box do_alloc do_ldk ldK_s do_stok stoK_s do_fad do_nilc do_not do_neg do_len do_lens do_ext do_eqs do_beq do_isn do_cvi do_sls do_idx do_mn do_mx do_build do_mkf do_s2b do_b2s do_slv do_iad do_bsl do_mks do_app ev_t ev_c app_some app_none
attribute [local go_sem] List.nil_append List.cons_append List.append_nil getL_hit getL_miss getH_nil getH_hit getH_miss nm_eq ne_eq Nat.reduceEqDiff not_false_eq_true Nat.reduceAdd Nat.add_zero Nat.zero_add if_true if_false ite_true ite_false pureK_s effK_s optK_s gdV_t gdV_f gdV_s pick_b ge_iff_le gt_iff_lt cond_true cond_false fresh_k cells_agg cells_int cells_bool cells_str cells_own cells_sl cells_nils ld_pv ld_pa ld_ip ldVar_t ldVar_f ldArr_t ldArr_f ldRow_t ldRow_f ldA_s ld1_s fad_pv fad_pa fad_ip nilc_pv nilc_pa nilc_ip not_b neg_i cvi_i ext_t retF_n retF_r
attribute [local go_sem] resV_k rvs_nil rvs_t rvs_c fstO_s consO_s resK_s resL_1 resL_2 resL_3 resL_4  Option.some.injEq List.map_cons List.map_nil List.all_cons List.all_nil Bool.and_true Bool.and_self Bool.not_true Bool.not_false Option.map_some Option.map_none sls_s slsG_s loV_n loV_i hiV_n hiV_i idx_s mn_i mx_i s2b_s b2s_s bytO_s bytes_nil bytes_cons conB_s slv_sl slv_own slv_nils slvG_s slvN_s slvO_s iad_sl iadG_map take_map drop_map List.length_map iad_own iad_view iadO_a iadW_a mks_i rowO_nils rowO_sl rowO_own rowA_a eq_self appG_nils appG_own appO_a guardP_T mapA_s bld_nil mkf_nil bldF_e fill_nil fill_cons mkf_e lens_s len_nils len_sl len_own len_view isn_nile isn_erre List.getElem?_cons_zero List.getElem?_cons_succ List.length_cons List.length_nil decide_true decide_false Int.toNat_natCast Int.cast_ofNat_Int Int.reduceLT Int.reduceLE Int.reduceEq Int.reduceAdd Int.reduceSub Int.reduceMul Int.reduceNeg Int.reduceToNat List.getD_cons_zero List.getD_cons_succ not_true_eq_false not_false_eq_true Bool.false_eq_true Bool.true_eq_false reduceCtorEq
attribute [local go_sem] E.row Pc.row Pair.row Part.row Strm.row Flw.row Pk.row Door.row Conv.row World.row Ev.row rdV E.eta Pc.eta Pair.eta Part.eta Strm.eta Pk.eta Flw.eta Conv.eta Door.eta World.eta Ev.eta
attribute [local go_sem] sub_ok st_pv st_pa stVar_v stArr_a Nat.le_refl List.drop_zero List.drop_succ_cons List.take_succ_cons List.take_zero setR Nat.reduceLeDiff
attribute [local go_sem] wk_bot wk2_bot wk1_bot wk_undef wk_tup_e wk2_agg_e wk_agg_e wk1_fn_e wk2_fn_e wk_fn_e wkl_nil wkl_cons wkh_var_e wkh_arr_e wkh_fresh_e wkh_dead_v wkh_dead_a wkh_dead_d wk0_undef wk0_int wk0_bool wk0_str wk0_nils wk0_nils_sl wk0_nilp wk0_nile wk0_erre wk0_sl wk0_iptr wk0_own wk0_view wk0_pv wk0_pa fzA_a fzW_a fzP_v wk0_own_sl wk0_view_sl wk0_pv_iptr WkS_nil WkS_cons WkN_nil WkN_cons nonB_nil nonB_cons getN_nil getN_hit getN_miss pinOk_0 pinOk_s and_true true_and and_self
attribute [local go_sem] bot_int one_int unt_int clo_int bot_bool one_bool unt_bool clo_bool bot_str one_str unt_str clo_str bot_nils one_nils unt_nils clo_nils bot_nilp one_nilp unt_nilp clo_nilp bot_nile one_nile unt_nile clo_nile bot_erre one_erre unt_erre clo_erre bot_raw one_raw unt_raw clo_raw bot_sl one_sl unt_sl clo_sl bot_own one_own unt_own clo_own bot_view one_view unt_view clo_view bot_pv one_pv unt_pv clo_pv bot_pa one_pa unt_pa clo_pa bot_iptr one_iptr unt_iptr clo_iptr unt_agg unt_fn one_fn
attribute [local go_sem] rn_tup rn_agg rn2_agg rn_fn rn2_fn rnfn1 rn_bot rn2_bot rn1_bot rn0_int rn0_bool rn0_str rn0_nils rn0_nilp rn0_nile rn0_erre rn0_sl rn0_iptr rn0_own rn0_view rn0_pv rn0_pa hrn_var hrn_arr hrn_dead outU_nil outU_cons deads_nil deads_cons bk_ge bk_lt nsF_0 nsF_s chH_0 chH_s chH_n newN_e andB_s eqR_nil eqR_i eqR_b eqR_s mapX_f mapX_t eqs_a beq_f beq_t live_arr live_var nsl_nil nsl_cons Nat.reduceMul Nat.reduceLT Nat.zero_le Nat.not_lt_zero
attribute [local go_sem] mV lD lA fD bN eX oP nP sR i0 s0
def ic10:IC:=sR [oP 4 (.mv (.c (.bool false)))] (.seq (sR [mV 18 0,oP 19 (.len (.t 18)),oP 20 (.bin .gtr (.t 19) (.c (.int .i64 1048576))),mV 21 20,⟨some 22,some (21,false),.mv (.t 1)⟩,⟨some 23,some (21,false),.len (.t 22)⟩,⟨some 24,some (21,false),.bin .gtr (.t 23) (.c (.int .i64 1048576))⟩,oP 25 (.pick (.t 21) (.c (.bool true)) (.t 24))] (.cond (.t 25) (sR [oP 4 (.mv (.c (.bool true)))] .ret) .skip)) (sR [mV 27 0,oP 28 (.call 15 [.t 27]),mV 26 28,eX 29 26 0,eX 30 26 1,mV 5 29,mV 6 30] (sR [mV 32 5,mV 33 6,oP 34 (.call 16 [.t 32,.t 33]),mV 31 34,eX 35 31 0,eX 36 31 1,oP 7 (.alloc 33 [.nils,.nils,.nils,.nils]),nP (.sto 4 (.t 7) (.t 35)),mV 8 36] (sR [mV 38 5,mV 39 6,oP 40 (.call 17 [.t 38,.t 39]),mV 37 40,eX 41 37 0,eX 42 37 1,oP 9 (.alloc 33 [.nils,.nils,.nils,.nils]),nP (.sto 4 (.t 9) (.t 41)),mV 10 42] (.seq (sR [mV 43 8,mV 44 10,oP 45 (.beq true (.t 43) (.t 44)),mV 46 45,⟨some 47,some (46,false),.ld 4 true (.t 7)⟩,⟨some 48,some (46,false),.ld 4 true (.t 9)⟩,⟨some 49,some (46,false),.call 18 [.t 47,.t 48]⟩,⟨some 50,some (46,false),.un .not (.t 49)⟩,oP 51 (.pick (.t 46) (.c (.bool true)) (.t 50)),mV 52 51,⟨some 53,some (52,false),.mv (.t 8)⟩,⟨some 54,some (52,false),.un .not (.t 53)⟩,oP 55 (.pick (.t 52) (.c (.bool true)) (.t 54))] (.cond (.t 55) (sR [mV 56 8,mV 57 10,oP 58 (.beq false (.t 56) (.t 57)),mV 59 58,⟨some 60,some (59,true),.ld 4 true (.t 7)⟩,⟨some 61,some (59,true),.ld 4 true (.t 9)⟩,⟨some 62,some (59,true),.call 18 [.t 60,.t 61]⟩,oP 63 (.pick (.t 59) (.t 62) (.c (.bool false))),mV 4 63] .ret) .skip)) (sR [mV 64 1,oP 65 (.len (.t 64)),oP 66 (.bin .rem (.t 65) (.c (.int .i64 5))),oP 67 (.bin .add (.c (.int .i64 1)) (.t 66)),mV 11 67] (sR [oP 68 (.bsl 9 1 [.c (.str [49]),.c (.str [50]),.c (.str [51]),.c (.str [52]),.c (.str [53]),.c (.str [54]),.c (.str [55]),.c (.str [56]),.c (.str [57])]),mV 12 68] (.seq (.drw [0,0,0,0,12,28,60,124,0,0,768,1792,4092,8188,0,0,49152,114688,262140,524284,1048575,0,4194303] [(0,oP 69 (.build [i0,i0] [(0,(1,.c (.int .i64 1))),(1,(1,.c (.int .i64 1)))])),(1,oP 70 (.build [i0,i0] [(0,(1,.c (.int .i64 4))),(1,(1,.c (.int .i64 4)))])),(2,mV 71 12),(3,mV 72 11),(4,oP 73 (.iad 1 (.t 71) (.t 72))),(5,lD 74 1 73),(6,oP 75 (.bin .add (.c (.str [64,49,58])) (.t 74))),(7,oP 76 (.bin .add (.t 75) (.c (.str [59,64,50,58])))),(8,mV 77 12),(9,mV 78 11),(10,oP 79 (.iad 1 (.t 77) (.t 78))),(11,lD 80 1 79),(12,bN 81 .add 76 80),(13,oP 82 (.bin .add (.t 81) (.c (.str [59,64,51,58])))),(14,mV 83 12),(15,mV 84 11),(16,oP 85 (.iad 1 (.t 83) (.t 84))),(17,lD 86 1 85),(18,bN 87 .add 82 86),(19,oP 88 (.bin .add (.t 87) (.c (.str [59,64,49,58,57,59])))),(20,oP 89 (.build [i0,i0,i0,i0,s0,s0,i0,i0,s0,s0] [(0,(2,.t 69)),(2,(2,.t 70)),(4,(1,.t 88))])),(21,oP 13 (.alloc 56 [i0,i0,i0,i0,s0,s0,i0,i0,s0,s0])),(22,nP (.sto 10 (.t 13) (.t 89)))]) (sR [oP 90 (.build [i0,i0] [(0,(1,.c (.int .i64 2))),(1,(1,.c (.int .i64 1)))]),oP 91 (.build [i0,i0] [(0,(1,.c (.int .i64 5))),(1,(1,.c (.int .i64 5)))]),oP 92 (.build [i0,i0,i0,i0,s0,s0,i0,i0,s0,s0] [(0,(2,.t 90)),(2,(2,.t 91)),(4,(1,.c (.str [64,49,58,56,59,64,50,58,56,59,64,51,58,56,59,64,51,58,57,59]))),(5,(1,.c (.str [97])))]),oP 14 (.alloc 56 [i0,i0,i0,i0,s0,s0,i0,i0,s0,s0]),nP (.sto 10 (.t 14) (.t 92))] (sR [lA 94 10 13,lA 95 10 14,oP 96 (.bsl 56 10 [.t 94,.t 95]),oP 97 (.call 30 [.t 96]),mV 93 97,eX 98 93 0,eX 99 93 1,oP 15 (.alloc 33 [.nils,.nils,.nils,.nils]),nP (.sto 4 (.t 15) (.t 98)),mV 16 99] (sR [lA 100 4 15,oP 101 (.call 31 [.t 100,.c (.int .i64 6)]),nP (.sto 4 (.t 15) (.t 101))] (sR [lA 102 4 15,oP 103 (.call 31 [.t 102,.c (.int .i64 1)]),oP 17 (.alloc 33 [.nils,.nils,.nils,.nils]),nP (.sto 4 (.t 17) (.t 103))] (.seq (.drw [0,1,3,7,15,31,63,127,255,511,1023,2047,4095,8191,8191,32767,65535,131071,262143,524287,1048575,2097151,4194303,262143,8650751,25427967,67108863,134217727,268435455] [(0,mV 104 16),(1,mV 105 104),(2,⟨some 106,some (105,true),.ld 4 true (.t 15)⟩),(3,⟨some 107,some (105,true),.call 28 [.t 106]⟩),(4,oP 108 (.pick (.t 105) (.t 107) (.c (.bool false)))),(5,mV 109 108),(6,⟨some 110,some (109,true),.fad 1 (.t 15)⟩),(7,⟨some 111,some (109,true),.fad 0 (.t 110)⟩),(8,⟨some 112,some (109,true),.ld 1 false (.t 111)⟩),(9,⟨some 113,some (109,true),.len (.t 112)⟩),(10,⟨some 114,some (109,true),.bin .leq (.t 113) (.c (.int .i64 8))⟩),(11,oP 115 (.pick (.t 109) (.t 114) (.c (.bool false)))),(12,mV 116 115),(13,⟨some 117,some (116,true),.ld 4 true (.t 15)⟩),(14,⟨some 118,some (116,true),.ld 4 true (.t 17)⟩),(15,⟨some 119,some (116,true),.call 18 [.t 117,.t 118]⟩),(16,oP 120 (.pick (.t 116) (.t 119) (.c (.bool false)))),(17,mV 121 120),(18,⟨some 122,some (121,true),.fad 0 (.t 15)⟩),(19,⟨some 123,some (121,true),.ld 1 false (.t 122)⟩),(20,⟨some 124,some (121,true),.iad 10 (.t 123) (.c i0)⟩),(21,⟨some 125,some (121,true),.fad 6 (.t 124)⟩),(22,⟨some 126,some (121,true),.ld 1 false (.t 125)⟩),(23,⟨some 127,some (121,true),.fad 4 (.t 13)⟩),(24,⟨some 128,some (121,true),.ld 1 false (.t 127)⟩),(25,⟨some 129,some (121,true),.lens (.t 128)⟩),(26,⟨some 130,some (121,true),.bin .eql (.t 126) (.t 129)⟩),(27,oP 131 (.pick (.t 121) (.t 130) (.c (.bool false)))),(28,mV 4 131)]) .ret)))))))))))))
theorem dg10:Dg Tryz.prog 10 Tryz.f10 ic10 [(.t 4)]:=⟨Tryz.func10,by kernel_rfl,by kernel_rfl⟩
theorem c10 (code more:B):FnR Tryz.prog G 10 [.sl 1 (code.map byR),.sl 1 (more.map byR)] (.bool true):=by
  refine mF dg10 Tryz.ntmps10 ?_
  simp only [ic10,go_sem]
  by_cases hc:(1048576:Int)<code.length
  · simp only [eq_true hc,go_sem]
  simp only [eq_false hc,go_sem]
  by_cases hm:(1048576:Int)<more.length
  · simp only [eq_true hm,go_sem]
  simp only [eq_false hm,go_sem]
  refine callO (c15 code (by omega)) [] 28 0 (by simp only [go_sem];first|done|simp) (by simp) (by rintro _ _ ⟨_,_,_,_,_,rfl⟩;simp) (by intro i hi;omega) ?_
  rintro _ _ ⟨cs,es,⟨⟨hc1,hc2⟩,hcB⟩,⟨he1,heB⟩,rfl,rfl⟩
  simp only [go_sem]
  have fi:∀ es':List Ev,es'.length≤es.length→(∀ e∈es',e∈es)→_:=fun es' h1 h2=>c16 cs es' (by omega) (fun c h=>by have:=hcB c h;omega) (by omega) (fun e h=>by have:=heB e (h2 e h);omega)
  have f1:=fi es (Nat.le_refl _) fun e h=>h
  with_reducible repeat' (first|refine br ?_ ?_<;>intro h e<;>(try simp only [e,go_sem])<;>clear e|rw [i64w (by omega)]|refine sd ?_<;>try simp only [go_sem]|(first|refine cr (f1 ..) ?_)<;>try simp only [go_sem]|fail)
  refine callO (c17 cs es (by omega) (fun c h=>by have:=hcB c h;omega) (by omega) (fun e h=>by have:=heB e h;omega)) [] 40 4 (by simp only [go_sem];first|done|simp) (by simp) (by rintro _ _ (⟨w,_,rfl,rfl⟩|⟨_,rfl,rfl⟩)<;>simp) (by intro i hi;rcases (show i=0∨i=1∨i=2∨i=3 by omega) with rfl|rfl|rfl|rfl<;>simp only [go_sem]) ?_
  rintro _ _ (⟨w,hw,rfl,rfl⟩|⟨hw,rfl,rfl⟩)
  · rw [hw]
    have hwi:=play_wi hw
    have hcl:=hwi.cl
    have hnl:=hwi.nl
    simp only [go_sem,Option.isSome_some,Option.getD_some,btt]
    with_reducible repeat' (first|refine br ?_ ?_<;>intro h e<;>(try simp only [e,go_sem,btt])<;>clear e|rw [i64w (by omega)]|refine sd ?_<;>try simp only [go_sem,btt]|fail)
    refine callF (c18 w (wi_wb hwi)) [104000,104001,104002,104003] false (by simp only [go_sem];first|done|simp [E.row,Pc.row,Pair.row,Part.row,Flw.row,Pk.row,Conv.row]) (by simp only [List.mem_cons,List.not_mem_nil,or_false];rintro c (rfl|rfl|rfl|rfl)<;>simp only [go_sem]) rfl (.inr rfl) ?_
    simp only [go_sem]
    obtain ⟨k,hk,hk5⟩:=tmod_nat more.length 5 (by decide)
    rw [show ((5:Nat):Int)=5 from rfl] at hk
    have hb:∃ b:UInt8,b∈([50,51,52,53,54]:List UInt8)∧([[.str [49]],[.str [50]],[.str [51]],[.str [52]],[.str [53]],[.str [54]],[.str [55]],[.str [56]],[.str [57]]]:List (List V)).getD (1+(k:Int)).toNat []=[.str [b]]:=by
      rcases (show k=0∨k=1∨k=2∨k=3∨k=4 by omega) with rfl|rfl|rfl|rfl|rfl
      · exact ⟨50,by decide,rfl⟩
      · exact ⟨51,by decide,rfl⟩
      · exact ⟨52,by decide,rfl⟩
      · exact ⟨53,by decide,rfl⟩
      · exact ⟨54,by decide,rfl⟩
    obtain ⟨b,hb,hd⟩:=hb
    obtain ⟨hn,s0,h1,c0,hc0,hca⟩:=law_full hb
    with_reducible repeat' (first|rw [i64w (by omega)];try simp only [go_sem,hk,hd]|refine br ?_ ?_<;>intro h e<;>(try simp only [e,go_sem,hk,hd])<;>clear e|refine sd ?_<;>try simp only [go_sem,hk,hd]|fail)
    refine callO (c30 [fullOne b,fullTwo] (by simp) (by simp [fullOne,fullTwo])) [1096] 97 1 (by simp only [go_sem,fullOne,fullTwo];first|done|simp [Conv.row]) (by simp only [List.mem_singleton];rintro c rfl;rfl) (by rintro _ _ (⟨w,_,rfl,rfl⟩|⟨_,rfl,rfl⟩)<;>simp) (by intro i hi;obtain rfl:i=0:=(by omega);simp only [go_sem]) ?_
    rw [hn]
    rintro _ _ (⟨w0,hw0,rfl,rfl⟩|⟨hw0,rfl,rfl⟩)
    rotate_left
    · cases hw0
    cases hw0
    obtain ⟨_,_,hz,hn0⟩:=worldNew_is hn
    have s6:=s0.rounds calm_step 6
    have fc:=c631 (fullW b) s0.wi (si_ok s0)
    have f1:=c31 (rounds 6 (fullW b)) 1 (by decide) s6.wi (si_ok s6)
    rw [h1] at f1
    have f1:FnR Tryz.prog G 31 [.agg [.sl 10 ((rounds 6 (fullW b)).convs.map Conv.row),.sl 3 ((rounds 6 (fullW b)).door.map.map Pair.row),.sl 8 ((rounds 6 (fullW b)).door.flows.map Flw.row),.sl 7 ((rounds 6 (fullW b)).nets.map Pk.row)],.int .i64 1] (.agg [.sl 10 ((rounds 6 (fullW b)).convs.map Conv.row),.sl 3 ((rounds 6 (fullW b)).door.map.map Pair.row),.sl 8 ((rounds 6 (fullW b)).door.flows.map Flw.row),.sl 7 ((rounds 6 (fullW b)).nets.map Pk.row)]):=f1
    have ft:=c28 (rounds 6 (fullW b)) s6
    have fz:=c18 (rounds 6 (fullW b)) (wi_wb s6.wi)
    have hml:((rounds 6 (fullW b)).door.map.length:Int)≤8:=by have:=(mapOk_ports (doorOk_iff.1 s6.wi.door).1).2;omega
    have hl0:0<(rounds 6 (fullW b)).convs.length:=(List.getElem?_eq_some_iff.1 hc0).1
    have hg0:(rounds 6 (fullW b)).convs.getD 0 default=c0:=by simp [List.getD,hc0]
    rw [hz,hn0] at fc
    simp only [Door.zero,List.map_nil] at fc
    generalize rounds 6 (fullW b)=x at *
    generalize (fullW b).convs=cv at *
    simp only [go_sem]
    with_reducible repeat' (first|rw [i64w (by omega)];try simp only [go_sem]|refine br ?_ ?_<;>intro h e<;>(try simp only [e,go_sem])<;>clear e|refine sd ?_<;>try simp only [go_sem]|fail)
    refine callF fc [109700] true (by simp only [go_sem];first|done|simp) (by simp only [List.mem_singleton];rintro c rfl;rfl) rfl (.inl rfl) ?_
    simp only [go_sem]
    with_reducible repeat' (first|rw [i64w (by omega)];try simp only [go_sem,eq_true hml,getD_mp hl0,hg0,hca]|refine br ?_ ?_<;>intro h e<;>(try simp only [e,go_sem,eq_true hml,getD_mp hl0,hg0,hca])<;>clear e|refine sd ?_<;>try simp only [go_sem,eq_true hml,getD_mp hl0,hg0,hca]|(first|refine cr (f1 ..) ?_|refine cr (ft ..) ?_|refine cr (fz ..) ?_)<;>try simp only [go_sem,eq_true hml,getD_mp hl0,hg0,hca]|fail)
    all_goals trace_state
  · rw [hw]
    simp only [go_sem,Option.isSome_none,Option.getD_none,zero_e,List.map_nil,bff]
    with_reducible repeat' (first|refine br ?_ ?_<;>intro h e<;>(try simp only [e,go_sem,bff])<;>clear e|rw [i64w (by omega)]|refine sd ?_<;>try simp only [go_sem,bff]|fail)
    refine callF (c18 .zero zeroWB) [] true (by simp only [go_sem,zero_e,List.map_nil];first|done|simp) (by simp) rfl (.inl rfl) ?_
    simp only [go_sem,bff]
    with_reducible repeat' (first|refine br ?_ ?_<;>intro h e<;>(try simp only [e,go_sem,bff])<;>clear e|rw [i64w (by omega)]|refine sd ?_<;>try simp only [go_sem,bff]|fail)
    all_goals first
      | (refine callF (c18 .zero zeroWB) [] true (by simp only [go_sem,zero_e,List.map_nil];first|done|simp) (by simp) rfl (.inl rfl) ?_
         simp only [go_sem,bff];done)
      | skip
end Go.Proofs.YtgganfobejnfaaaGreatDoor.W
namespace Go.Proofs.YtgganfobejnfaaaGreatDoor.fnWorldFull
open Go Go.ChangeShapes Go.WideShapes Go.ChangeAt Go.RowKit Go.Proofs.YtgganfobejnfaaaGreatDoor.W
theorem walk (v0 v1:Value) (W:World) (hs:W.ShapedOpen Tryz.prog) (hL:laidMetH Tryz.prog Rows.fnWorldFullRow.laid W) (hv0:∃ code:M.B,VL.Den W noO noρ noH (.sl 1 (code.map M.byR)) v0) (hv1:∃ code:M.B,VL.Den W noO noρ noH (.sl 1 (code.map M.byR)) v1) :
    Calls Tryz.prog 10 #[v0,v1] W fun e W'=>e=.returned (.bool true)∧Below W.heap.size W W':=by
  obtain ⟨code,hdv0⟩:=hv0
  obtain ⟨more,hdv1⟩:=hv1
  have:=Go.Proofs.YtgganfobejnfaaaGreatDoor.W.FnR.calls (c10 code more) (us:=[v0,v1]) (gOk rfl hL hs) ⟨rfl,fun j a b ha hb=>by
    match j,ha,hb with
    | 0,ha,hb=>cases ha;cases hb;exact hdv0
    | 1,ha,hb=>cases ha;cases hb;exact hdv1
    | j+2,ha,hb=>simp at ha⟩
  exact this
set_option maxRecDepth 100000 in
theorem contract (H:Type) (enc:TypeId × Value→H) (W:World) (base:Nat) (args:Array Value) (ds gs:List (DataW H)) (before:List MemPlace)
    (hval:∀ (j:Nat) t v,Tryz.f10.params[j]?=some t→args[j]?=some v→Value.okWide Tryz.prog W .any base t v)
    (hW:DataW.Whole enc Tryz.prog Tryz.f10.params.toList Rows.fnWorldFullSpec.vars false W args.toList ds gs before) (hL:laidMetH Tryz.prog Rows.fnWorldFullRow.laid W) (hs:W.ShapedOpen Tryz.prog) :
    Calls Tryz.prog 10 args W fun e W'=>∃ v,e=.returned v∧Rows.fnWorldFullSpec.post enc Tryz.prog Tryz.f10 false true false false W args v W':=by
  have hW':=hW
  obtain ⟨p,q,hA0,hV,rfl,hfz,hnd⟩:=hW
  have hA:DataW.TrodAll enc Tryz.prog W 0 (fun _=>true) true Tryz.f10.params.toList args.toList ds p:=hA0
  rw [Tryz.params10] at hA hval
  obtain ⟨v0,r0s,d0,d0s,p0,q0,hargs0,rfl,rfl,h0,r0⟩:=trodAll_cons hA
  obtain ⟨v1,r1s,d1,d1s,p1,q1,hargs1,rfl,rfl,h1,r1⟩:=trodAll_cons r0
  obtain ⟨e1,e2,e3⟩:=trodAll_nil r1
  subst e1 e2 e3
  obtain rfl:args=#[v0,v1]:=by cases args;simp_all
  obtain ⟨rfl,rfl⟩:=trodVars_none hV
  obtain ⟨a0,len0,cap0,hv0⟩:=okWide_slice Tryz.underlying22 (hval 0 22 v0 rfl rfl)
  have k0:=h0
  have lt0:∀ x∈p0,x.block<W.heap.size:=by obtain ⟨m,hm⟩:=k0;exact DataW.trod_lt m _ _ _ hm
  have hc0:=open_code h0 ⟨a0,len0,cap0,hv0⟩
  obtain ⟨a1,len1,cap1,hv1⟩:=okWide_slice Tryz.underlying22 (hval 1 22 v1 rfl rfl)
  have k1:=h1
  have lt1:∀ x∈p1,x.block<W.heap.size:=by obtain ⟨m,hm⟩:=k1;exact DataW.trod_lt m _ _ _ hm
  have hc1:=open_code h1 ⟨a1,len1,cap1,hv1⟩
  clear hA0
  refine (walk v0 v1 W hs hL hc0 hc1).mono fun e W' ⟨he,bel⟩=>?_
  subst he
  exact ⟨_,rfl,_,_,_,[],_,[],hW',trodAll_mk1 (shut_bool Tryz.underlying4 _),(trodAll_cons_mk (Below.trod laidOut (by kernel_rfl) (of_decide_eq_true (by kernel_rfl)) k0 bel lt0) (trodAll_cons_mk (Below.trod laidOut (by kernel_rfl) (of_decide_eq_true (by kernel_rfl)) k1 bel lt1) trodAll_mk0)),rfl,bel.frame _,fun h=>by cases h⟩
theorem inP:(Rows.fnWorldFullRow.inPlace == Tryz.prog.inPlace 10)=true:=by kernel_rfl
theorem unf:(Rows.fnWorldFullRow.unfollowed == Tryz.prog.unfollowed 10)=true:=by kernel_rfl
theorem rcs:(Rows.fnWorldFullRow.recurses == Tryz.prog.recurses 10)=true:=by kernel_rfl
theorem nam:(Rows.fnWorldFullRow.named == Tryz.prog.varsNamed 10)=true:=by kernel_rfl
theorem lif:(Rows.fnWorldFullRow.lifted == Tryz.prog.liftsFinal)=true:=lifF
theorem pke:(Rows.fnWorldFullRow.plainKeys == Tryz.prog.plainKeys)=true:=pkeF
theorem mak:(Tryz.prog.make == some Rows.fnWorldFullRow.make)=true:=makF
theorem closed0:joinedFacts Tryz.prog 10 Tryz.f10 Rows.fnWorldFullSpec Rows.fnWorldFullRow=true:=by
  unfold joinedFacts
  rw [laidOut,mapF,inP,unf,rcs,nam,pke,stoF,mayF,lif,mak]
  kernel_rfl
theorem closed:joinedFacts Tryz.pinned.checked.prog 10 Tryz.f10 (OpenSpec.ofChange Rows.fnWorldFullSpec).bare Rows.fnWorldFullRow=true :=
  (show joinedFacts Tryz.pinned.checked.prog 10 Tryz.f10 (OpenSpec.ofChange Rows.fnWorldFullSpec).bare Rows.fnWorldFullRow=joinedFacts Tryz.prog 10 Tryz.f10 Rows.fnWorldFullSpec Rows.fnWorldFullRow by kernel_rfl).trans closed0
theorem door_met (os:Os) (args:Array Value):laidMetH Tryz.prog Rows.fnWorldFullRow.laid ((World.doorLaid Tryz.prog 400 os).forCall (fun _ _=>0) ⟨#[],args,[]⟩).memory :=
  laidMetH_of_parts3 (fuel:=8) (laidMet_of_run' 8 (by kernel_rfl) (by kernel_rfl)) (by kernel_rfl) (by kernel_rfl)
theorem reads (os:Os) {H:Type} (enc:TypeId × Value→H):∃ places,DataW.whole enc Tryz.prog ((World.doorLaid Tryz.prog 400 os).forCall (fun _ _=>0) ⟨#[],#[.slice none 0 0,.slice none 0 0],[]⟩).memory Tryz.f10.params.toList Rows.fnWorldFullSpec.vars false #[Value.slice none 0 0,Value.slice none 0 0].toList 8=some ([.nil,.nil],[],places) :=
  ⟨[],by kernel_rfl⟩
set_option maxRecDepth 100000 in
theorem lifted (os:Os) (started:os.Started) (H:Type) (enc:TypeId × Value→H) (F:Stop.Interp) :
    ReturnsInHanded {} Tryz.checked os 10 .any ((OpenSpec.ofChange Rows.fnWorldFullSpec).preRow enc Tryz.prog Tryz.f10 Rows.fnWorldFullRow.domain false Rows.fnWorldFullRow.laid) (((OpenSpec.ofChange Rows.fnWorldFullSpec).at F).post enc Tryz.prog Tryz.f10 false true false false):=by
  obtain ⟨places,hx⟩:=reads os enc
  refine returnsInHanded_of_row (C:=Tryz.checked) (s:=OpenSpec.ofChange Rows.fnWorldFullSpec) own started (by kernel_rfl) Tryz.func10
    (witness_row_atRef (enc:=enc) (C:=Tryz.checked) false (World.doorLaid Tryz.prog 400 os) #[.slice none 0 0,.slice none 0 0] rfl (by kernel_rfl) (by kernel_rfl) (by kernel_rfl)
      (OpenSpec.preRow_of_cond 8 hx (by kernel_rfl) (fun k hk=>by cases hk) (by kernel_rfl) (door_met os _))) ?_
  intro W base args ds gs before hval hW _ _ _ hL hs _
  exact contract H enc W base args ds gs before hval hW hL hs
theorem said:Rows.FnWorldFullSaid :=
  OpenClaim.holds_of_cond 10 Tryz.f10 rfl rfl rfl rfl rfl rfl rfl ⟨rfl,rfl,rfl,rfl,rfl⟩ rfl rfl rfl rfl rfl (by kernel_rfl) Tryz.func10 closed
    (of_decide_eq_true (by kernel_rfl)) (by unfold Func.isWrapper;first|(rw [if_pos (by decide +kernel)];kernel_rfl)|(rw [if_neg (by decide +kernel)];exact ⟨rfl,rfl⟩))
    (fun os started H enc _ F=>by rw [OpenClaim.pre_eq_preRow];exact lifted os started H enc F)
theorem plain (f:FuncId) (fn:Func) (hf:Tryz.pinned.checked.prog.funcNamed "loop.example/ostiary/laws.FnWorldFull"=some f) (hfn:Tryz.pinned.checked.prog.funcs[f]?=some fn) :
    true=Tryz.pinned.checked.prog.looks []∧∀ (j:Nat) t,fn.params[j]?=some t→Tryz.pinned.checked.prog.wantsStandIn t=false:=by
  obtain rfl:f=10:=Option.some.inj ((show Tryz.prog.funcNamed "loop.example/ostiary/laws.FnWorldFull"=some 10 by kernel_rfl).symm.trans hf) |>.symm
  obtain rfl:fn=Tryz.f10:=(Option.some.inj (Tryz.func10.symm.trans hfn)).symm
  refine ⟨by kernel_rfl,fun j t ht=>?_⟩
  rw [Tryz.params10] at ht
  obtain rfl:t=22:=by simpa using Array.mem_of_getElem? ht
  exact (show Tryz.prog.wantsStandIn 22=false by kernel_rfl)
theorem card:Rows.FnWorldFullCardSaid :=
  Claim7.holds_tied_plain_at .later [] _ _ _ _ said (fun _ h=>by cases h) (by kernel_rfl) (fun _ h=>by cases h) fnWorldFull_row_tie rfl ⟨rfl,rfl⟩ (by kernel_rfl) rfl plain (by kernel_rfl)
end Go.Proofs.YtgganfobejnfaaaGreatDoor.fnWorldFull
