/- FnWorldForged: without strangers all is as with them, in a drawn play. Conditions: those of the row alone. -/
import Derived.Test.YtgganfobejnfaaaGreatDoorX07
import Derived.Test.YtgganfobejnfaaaGreatDoorX03
import Derived.Test.YtgganfobejnfaaaGreatDoorX04
import Derived.Test.YtgganfobejnfaaaGreatDoorCards
import Derived.Test.YtgganfobejnfaaaGreatDoorTie
set_option linter.all false
namespace Go.Proofs.YtgganfobejnfaaaGreatDoor.W
open Go Go.RowKit Go.Proofs Go.Proofs.YtgganfobejnfaaaGreatDoor.VL Go.Proofs.YtgganfobejnfaaaGreatDoor.M
attribute [local congr] optK_congr guardK_congr condK_congr runT_congr runD_congr wpI_congr CallV_congr LoopI_congr pureK_congr effK_congr calK_congr stepV_congr doV_congr exN_congr exB_congr retF_congr retQ_congr gK_congr condW_congr ldK_congr stoK_congr
attribute [local go_sem] argL_cons argL_nil argH_nil argH_cons chH_getH wpI_seq wpI_reg wpI_drw wpI_ret cond_k condW_t condW_f wpI_skip wpI_block wpI_exit wpI_loop exN_n exN_r exN_e exB_n exB_r exB_h exB_m runT_k kT_e runT_nil runD_k kD_e runD_nil step_u step_k gK_t gK_f do_mv do_bino bo_add bo_sub bo_mul bo_subu bo_quo bo_rem bo_xor bo_eql bo_neq bo_lss bo_leq bo_gtr bo_geq bo_cat bo_eqs bo_nes do_pick do_call do_cal calK_f do_box do_alloc do_ldk ldK_s do_stok stoK_s do_fad do_nilc do_not do_neg do_len do_lens do_ext do_eqs do_beq do_isn do_cvi do_sls do_idx do_mn do_mx do_build do_mkf do_s2b do_b2s do_slv do_iad do_bsl do_mks do_app ev_t ev_c app_some app_none
attribute [local go_sem] List.nil_append List.cons_append List.append_nil getL_hit getL_miss getH_nil getH_hit getH_miss nm_eq ne_eq Nat.reduceEqDiff not_false_eq_true Nat.reduceAdd Nat.add_zero Nat.zero_add if_true if_false ite_true ite_false pureK_s effK_s optK_s gdV_t gdV_f gdV_s pick_b ge_iff_le gt_iff_lt cond_true cond_false fresh_k cells_agg cells_int cells_bool cells_str cells_own cells_sl cells_nils ld_pv ld_pa ld_ip ldVar_t ldVar_f ldArr_t ldArr_f ldRow_t ldRow_f ldA_s ld1_s fad_pv fad_pa fad_ip nilc_pv nilc_pa nilc_ip not_b neg_i cvi_i ext_t retF_n retF_r
attribute [local go_sem] resV_k rvs_nil rvs_t rvs_c fstO_s consO_s resK_s resL_1 resL_2 resL_3 resL_4  Option.some.injEq List.map_cons List.map_nil List.all_cons List.all_nil Bool.and_true Bool.and_self Bool.not_true Bool.not_false Option.map_some Option.map_none sls_s slsG_s loV_n loV_i hiV_n hiV_i idx_s mn_i mx_i s2b_s b2s_s bytO_s bytes_nil bytes_cons conB_s slv_sl slv_own slv_nils slvG_s slvN_s slvO_s iad_sl iadG_map take_map drop_map List.length_map iad_own iad_view iadO_a iadW_a mks_i rowO_nils rowO_sl rowO_own rowA_a eq_self appG_nils appG_own appO_a guardP_T mapA_s bld_nil mkf_nil bldF_e fill_nil fill_cons mkf_e lens_s len_nils len_sl len_own len_view isn_nile isn_erre List.getElem?_cons_zero List.getElem?_cons_succ List.length_cons List.length_nil decide_true decide_false Int.toNat_natCast Int.cast_ofNat_Int Int.reduceLT Int.reduceLE Int.reduceEq Int.reduceAdd Int.reduceSub Int.reduceMul Int.reduceNeg Int.reduceToNat List.getD_cons_zero List.getD_cons_succ not_true_eq_false not_false_eq_true Bool.false_eq_true Bool.true_eq_false reduceCtorEq
attribute [local go_sem] E.row Pc.row Pair.row Part.row Strm.row Flw.row Pk.row Door.row Conv.row World.row Ev.row rdV E.eta Pc.eta Pair.eta Part.eta Strm.eta Pk.eta Flw.eta Conv.eta Door.eta World.eta Ev.eta
attribute [local go_sem] sub_ok st_pv st_pa stVar_v stArr_a Nat.le_refl List.drop_zero List.drop_succ_cons List.take_succ_cons List.take_zero setR Nat.reduceLeDiff
attribute [local go_sem] wk_bot wk2_bot wk1_bot wk_undef wk_tup_e wk2_agg_e wk_agg_e wk1_fn_e wk2_fn_e wk_fn_e wkl_nil wkl_cons wkh_var_e wkh_arr_e wkh_fresh_e wkh_dead_v wkh_dead_a wkh_dead_d wk0_undef wk0_int wk0_bool wk0_str wk0_nils wk0_nils_sl wk0_nilp wk0_nile wk0_erre wk0_sl wk0_iptr wk0_own wk0_view wk0_pv wk0_pa fzA_a fzW_a fzP_v wk0_own_sl wk0_view_sl wk0_pv_iptr WkS_nil WkS_cons WkN_nil WkN_cons nonB_nil nonB_cons getN_nil getN_hit getN_miss pinOk_0 pinOk_s and_true true_and and_self
attribute [local go_sem] bot_int one_int unt_int clo_int bot_bool one_bool unt_bool clo_bool bot_str one_str unt_str clo_str bot_nils one_nils unt_nils clo_nils bot_nilp one_nilp unt_nilp clo_nilp bot_nile one_nile unt_nile clo_nile bot_erre one_erre unt_erre clo_erre bot_raw one_raw unt_raw clo_raw bot_sl one_sl unt_sl clo_sl bot_own one_own unt_own clo_own bot_view one_view unt_view clo_view bot_pv one_pv unt_pv clo_pv bot_pa one_pa unt_pa clo_pa bot_iptr one_iptr unt_iptr clo_iptr unt_agg unt_fn one_fn
attribute [local go_sem] rn_tup rn_agg rn2_agg rn_fn rn2_fn rnfn1 rn_bot rn2_bot rn1_bot rn0_int rn0_bool rn0_str rn0_nils rn0_nilp rn0_nile rn0_erre rn0_sl rn0_iptr rn0_own rn0_view rn0_pv rn0_pa hrn_var hrn_arr hrn_dead outU_nil outU_cons deads_nil deads_cons bk_ge bk_lt nsF_0 nsF_s chH_0 chH_s chH_n newN_e andB_s eqR_nil eqR_i eqR_b eqR_s mapX_f mapX_t eqs_a beq_f beq_t live_arr live_var nsl_nil nsl_cons Nat.reduceMul Nat.reduceLT Nat.zero_le Nat.not_lt_zero
attribute [local go_sem] mV lD lA fD bN eX oP nP sR i0 s0
def ic13:IC:=sR [oP 2 (.mv (.c (.bool false)))] (.seq (sR [mV 16 0,oP 17 (.len (.t 16)),oP 18 (.bin .gtr (.t 17) (.c (.int .i64 1048576)))] (.cond (.t 18) (sR [oP 2 (.mv (.c (.bool true)))] .ret) .skip)) (sR [mV 20 0,oP 21 (.call 15 [.t 20]),mV 19 21,eX 22 19 0,eX 23 19 1,mV 3 22,mV 4 23] (sR [mV 25 3,mV 26 4,oP 27 (.call 16 [.t 25,.t 26]),mV 24 27,eX 28 24 0,eX 29 24 1,oP 5 (.alloc 33 [.nils,.nils,.nils,.nils]),nP (.sto 4 (.t 5) (.t 28)),mV 6 29] (sR [mV 31 3,mV 32 4,oP 33 (.call 17 [.t 31,.t 32]),mV 30 33,eX 34 30 0,eX 35 30 1,oP 7 (.alloc 33 [.nils,.nils,.nils,.nils]),nP (.sto 4 (.t 7) (.t 34)),mV 8 35] (.seq (sR [mV 36 6,mV 37 8,oP 38 (.beq true (.t 36) (.t 37)),mV 39 38,⟨some 40,some (39,false),.ld 4 true (.t 5)⟩,⟨some 41,some (39,false),.ld 4 true (.t 7)⟩,⟨some 42,some (39,false),.call 18 [.t 40,.t 41]⟩,⟨some 43,some (39,false),.un .not (.t 42)⟩,oP 44 (.pick (.t 39) (.c (.bool true)) (.t 43)),mV 45 44,⟨some 46,some (45,false),.mv (.t 6)⟩,⟨some 47,some (45,false),.un .not (.t 46)⟩,oP 48 (.pick (.t 45) (.c (.bool true)) (.t 47))] (.cond (.t 48) (sR [mV 49 6,mV 50 8,oP 51 (.beq false (.t 49) (.t 50)),mV 52 51,⟨some 53,some (52,true),.ld 4 true (.t 5)⟩,⟨some 54,some (52,true),.ld 4 true (.t 7)⟩,⟨some 55,some (52,true),.call 18 [.t 53,.t 54]⟩,oP 56 (.pick (.t 52) (.t 55) (.c (.bool false))),mV 2 56] .ret) .skip)) (sR [oP 57 (.bsl 53 11 []),mV 9 57] (.seq (sR [oP 10 (.mv (.c i0))] (.block 0 (.loop (.seq (sR [mV 58 10,mV 59 4,oP 60 (.len (.t 59)),bN 61 .lss 58 60] (.cond (.t 61) .skip (.exit 0))) (.seq (.block 1 (sR [mV 64 4,mV 65 10,oP 66 (.iad 11 (.t 64) (.t 65)),fD 67 0 66,lD 68 1 67,oP 69 (.bin .neq (.t 68) (.c (.int .i64 6)))] (.cond (.t 69) (.reg [mV 70 9,mV 71 4,mV 72 10,oP 73 (.iad 11 (.t 71) (.t 72)),lA 74 11 73,oP 75 (.bsl 53 11 [.t 74]),oP 76 (.app 53 11 (.t 70) (.t 75)),mV 9 76]) .skip))) (.reg [mV 62 10,oP 63 (.bin .add (.t 62) (.c (.int .i64 1))),mV 10 63])))))) (sR [mV 78 3,mV 79 9,oP 80 (.call 16 [.t 78,.t 79]),mV 77 80,eX 81 77 0,eX 82 77 1,oP 11 (.alloc 33 [.nils,.nils,.nils,.nils]),nP (.sto 4 (.t 11) (.t 81)),mV 12 82] (sR [lA 83 4 5,oP 84 (.call 31 [.t 83,.c (.int .i64 6)]),oP 13 (.alloc 33 [.nils,.nils,.nils,.nils]),nP (.sto 4 (.t 13) (.t 84))] (sR [lA 85 4 11,oP 86 (.call 31 [.t 85,.c (.int .i64 6)]),oP 14 (.alloc 33 [.nils,.nils,.nils,.nils]),nP (.sto 4 (.t 14) (.t 86))] (.seq (sR [lA 87 4 13,oP 88 (.call 32 [.t 87]),oP 89 (.un .not (.t 88)),mV 90 89,⟨some 91,some (90,false),.ld 4 true (.t 14)⟩,⟨some 92,some (90,false),.call 32 [.t 91]⟩,⟨some 93,some (90,false),.un .not (.t 92)⟩,oP 94 (.pick (.t 90) (.c (.bool true)) (.t 93))] (.cond (.t 94) (sR [mV 95 12,mV 2 95] .ret) .skip)) (.seq (sR [oP 15 (.mv (.c i0))] (.block 2 (.loop (.seq (sR [mV 96 15,fD 97 0 13,lD 98 1 97,oP 99 (.len (.t 98)),bN 100 .lss 96 99] (.cond (.t 100) .skip (.exit 2))) (.seq (.block 3 (.seq (.drw [0,1,0,7,15,31,0,64,0,448,960,1984,4095,8191,16383,32767,16383,131071,262143,524287,16383,1064959,16383,7356415,15745023,32522239,67108863,134217727] [(0,fD 103 0 13),(1,lD 104 1 103),(2,mV 105 15),(3,oP 106 (.iad 10 (.t 104) (.t 105))),(4,fD 107 6 106),(5,lD 108 1 107),(6,fD 109 0 14),(7,lD 110 1 109),(8,mV 111 15),(9,oP 112 (.iad 10 (.t 110) (.t 111))),(10,fD 113 6 112),(11,lD 114 1 113),(12,bN 115 .neq 108 114),(13,mV 116 115),(14,⟨some 117,some (116,false),.fad 0 (.t 13)⟩),(15,⟨some 118,some (116,false),.ld 1 false (.t 117)⟩),(16,⟨some 119,some (116,false),.mv (.t 15)⟩),(17,⟨some 120,some (116,false),.iad 10 (.t 118) (.t 119)⟩),(18,⟨some 121,some (116,false),.fad 7 (.t 120)⟩),(19,⟨some 122,some (116,false),.ld 1 false (.t 121)⟩),(20,⟨some 123,some (116,false),.fad 0 (.t 14)⟩),(21,⟨some 124,some (116,false),.ld 1 false (.t 123)⟩),(22,⟨some 125,some (116,false),.mv (.t 15)⟩),(23,⟨some 126,some (116,false),.iad 10 (.t 124) (.t 125)⟩),(24,⟨some 127,some (116,false),.fad 7 (.t 126)⟩),(25,⟨some 128,some (116,false),.ld 1 false (.t 127)⟩),(26,⟨some 129,some (116,false),.bin .neq (.t 122) (.t 128)⟩),(27,oP 130 (.pick (.t 116) (.c (.bool true)) (.t 129)))]) (.cond (.t 130) (sR [oP 2 (.mv (.c (.bool false)))] .ret) .skip))) (.reg [mV 101 15,oP 102 (.bin .add (.t 101) (.c (.int .i64 1))),mV 15 102])))))) (sR [mV 131 12,mV 132 131,⟨some 133,some (132,true),.ld 4 true (.t 14)⟩,⟨some 134,some (132,true),.call 28 [.t 133]⟩,oP 135 (.pick (.t 132) (.t 134) (.c (.bool false))),mV 2 135] .ret)))))))))))))
theorem dg13:Dg Tryz.prog 13 Tryz.f13 ic13 [(.t 2)]:=⟨Tryz.func13,by kernel_rfl,by kernel_rfl⟩
theorem c13 (code:B):FnR Tryz.prog G 13 [.sl 1 (code.map byR)] (.bool true):=by
  refine mF dg13 Tryz.ntmps13 ?_
  simp only [ic13,go_sem]
  by_cases hc:(1048576:Int)<code.length
  · simp only [eq_true hc,go_sem]
  simp only [eq_false hc,go_sem]
  refine callO (c15 code (by omega)) [] 21 0 (by simp only [go_sem];first|done|simp) (by simp) (by rintro _ _ ⟨_,_,_,_,_,rfl⟩;simp) (by intro i hi;omega) ?_
  rintro _ _ ⟨cs,es,⟨⟨hc1,hc2⟩,hcB⟩,⟨he1,heB⟩,rfl,rfl⟩
  simp only [go_sem]
  have fi:∀ es':List Ev,es'.length≤es.length→(∀ e∈es',e∈es)→_:=fun es' h1 h2=>c16 cs es' (by omega) (fun c h=>by have:=hcB c h;omega) (by omega) (fun e h=>by have:=heB e (h2 e h);omega)
  have f1:=fi es (Nat.le_refl _) fun e h=>h
  with_reducible repeat' (first|refine br ?_ ?_<;>intro h e<;>(try simp only [e,go_sem])<;>clear e|rw [i64w (by omega)]|refine sd ?_<;>try simp only [go_sem]|(first|refine cr (f1 ..) ?_)<;>try simp only [go_sem]|fail)
  refine callO (c17 cs es (by omega) (fun c h=>by have:=hcB c h;omega) (by omega) (fun e h=>by have:=heB e h;omega)) [] 33 4 (by simp only [go_sem];first|done|simp) (by simp) (by rintro _ _ (⟨w,_,rfl,rfl⟩|⟨_,rfl,rfl⟩)<;>simp) (by intro i hi;rcases (show i=0∨i=1∨i=2∨i=3 by omega) with rfl|rfl|rfl|rfl<;>simp only [go_sem]) ?_
  rintro _ _ (⟨w,hw,rfl,rfl⟩|⟨hw,rfl,rfl⟩)
  · rw [hw]
    have hwi:=play_wi hw
    have hcl:=hwi.cl
    have hnl:=hwi.nl
    simp only [go_sem,Option.isSome_some,Option.getD_some,btt]
    with_reducible repeat' (first|refine br ?_ ?_<;>intro h e<;>(try simp only [e,go_sem,btt])<;>clear e|rw [i64w (by omega)]|refine sd ?_<;>try simp only [go_sem,btt]|fail)
    refine callF (c18 w (wi_wb hwi)) [103300,103301,103302,103303] false (by simp only [go_sem];first|done|simp [E.row,Pc.row,Pair.row,Part.row,Flw.row,Pk.row,Conv.row]) (by simp only [List.mem_cons,List.not_mem_nil,or_false];rintro c (rfl|rfl|rfl|rfl)<;>simp only [go_sem]) rfl (.inr rfl) ?_
    simp only [go_sem]
    have sw:=play_calm hw
    obtain ⟨x,hx⟩:=play_some hw (quiet_len 6 es)
    have sx:=play_calm hx
    obtain ⟨hxl,hsame⟩:=play_same hw hx
    with_reducible repeat' (first|refine br ?_ ?_<;>intro h e<;>(try simp only [e,go_sem])<;>clear e|rw [i64w (by omega)]|refine sd ?_<;>try simp only [go_sem]|fail)
    refine loopN (fun i:Nat=>⟨getL [(3,.sl 10 (cs.map Conv.row)),(4,.sl 11 (es.map Ev.row)),(5,.pv 1005 0),(9,.own 1057 (quiet 6 (es.take i)).length),(10,.int .i64 (i:Int))],getH [(1005,.var 33 [.sl 10 (w.convs.map Conv.row),.sl 3 (w.door.map.map Pair.row),.sl 8 (w.door.flows.map Flw.row),.sl 7 (w.nets.map Pk.row)]),(1057,.arr 53 11 ((quiet 6 (es.take i)).map Ev.row))]⟩) (fun i=>es.length - i) (fun i=>i≤es.length) 0 (by rw [List.take_zero,quiet_nil];exact (leQ [])) (Nat.zero_le _) ?_
    intro i hi
    have hfl:=quiet_len 6 (es.take i)
    have htl:=List.length_take_le i es
    simp only [go_sem]
    by_cases h:(i:Int)<es.length
    · have hil:i<es.length:=by omega
      have hg:es.getD i default=es[i]:=by simp [List.getD,hil]
      have htk:es.take (i+1)=es.take i++[es[i]]:=by rw [List.take_add_one,List.getElem?_eq_getElem hil];rfl
      simp only [eq_true h,go_sem]
      generalize es[i]=e at *
      with_reducible repeat' (first|refine br ?_ ?_<;>intro h e<;>(try simp only [e,go_sem,hg])<;>clear e|rw [i64w (by omega)]|refine sd ?_<;>try simp only [go_sem,hg]|fail)
      · refine ⟨i+1,by omega,by omega, ?_⟩
        rw [htk,quiet_f (by assumption)]
        exact (leQ [])
      · refine ⟨i+1,by omega,by omega, ?_⟩
        rw [htk,quiet_t (by assumption)]
        refine leN [(1057,1076)] ?_ ?_ (by simp [getN]) (by simp only [go_sem])
        · simp only [go_sem];simp
        · simp only [go_sem];simp [Ev.row]
    simp only [eq_false h,go_sem]
    have hie:i=es.length:=by omega
    subst hie
    rw [List.take_length] at *
    have f2:=fi (quiet 6 es) hfl fun e h=>quiet_mem h
    rw [hx] at f2
    simp only [Option.isSome_some,Option.getD_some] at f2
    have fc:=c631 w hwi (si_ok sw)
    have fd:=c631 x sx.wi (si_ok sx)
    have s6:=sw.rounds calm_step 6
    have x6:=sx.rounds calm_step 6
    have fp:=c32 (rounds 6 w)
    have fq:=c32 (rounds 6 x)
    have fu:=c28 (rounds 6 x) x6
    have hlen:(rounds 6 x).convs.length=(rounds 6 w).convs.length:=by rw [(rounds_ext 6 x).len,(rounds_ext 6 w).len,hxl]
    have law:=fun h1 h2 i c d=>law_same sw sx hsame h1 h2 (i:=i) (c:=c) (d:=d)
    have hcl6:=s6.wi.cl
    with_reducible repeat' (first|refine br ?_ ?_<;>intro h e<;>(try simp only [e,go_sem])<;>clear e|rw [i64w (by omega)]|refine sd ?_<;>try simp only [go_sem]|fail)
    refine callF f2 [1057] true (by simp only [go_sem];first|done|simp) (by simp only [List.mem_singleton];rintro c rfl;rfl) rfl (.inl rfl) ?_
    simp only [go_sem]
    by_cases hm:((rounds 6 w).door.map.length:Int)≤7
    · by_cases hm2:((rounds 6 x).door.map.length:Int)≤7
      · rw [decide_eq_true hm] at fp
        rw [decide_eq_true hm2] at fq
        have law:=law (by omega) (by omega)
        generalize rounds 6 w=a at *
        generalize rounds 6 x=b at *
        with_reducible repeat' (first|refine br ?_ ?_<;>intro h e<;>(try simp only [e,go_sem])<;>clear e|rw [i64w (by omega)]|refine sd ?_<;>try simp only [go_sem]|(first|refine cr (fc ..) ?_|refine cr (fd ..) ?_|refine cr (fp ..) ?_|refine cr (fq ..) ?_)<;>try simp only [go_sem]|fail)
        refine loopN (fun i:Nat=>⟨getL [(12,.bool true),(13,.pv 1013 0),(14,.pv 1014 0),(15,.int .i64 (i:Int))],getH [(1013,.var 33 [.sl 10 (a.convs.map Conv.row),.sl 3 (a.door.map.map Pair.row),.sl 8 (a.door.flows.map Flw.row),.sl 7 (a.nets.map Pk.row)]),(1014,.var 33 [.sl 10 (b.convs.map Conv.row),.sl 3 (b.door.map.map Pair.row),.sl 8 (b.door.flows.map Flw.row),.sl 7 (b.nets.map Pk.row)])]⟩) (fun i=>a.convs.length - i) (fun i=>i≤a.convs.length) 0 (leQ []) (Nat.zero_le _) ?_
        intro i hi
        simp only [go_sem]
        by_cases h:(i:Int)<a.convs.length
        · have hil:i<a.convs.length:=by omega
          have hil2:i<b.convs.length:=by omega
          have hg:a.convs.getD i default=a.convs[i]:=by simp [List.getD,hil]
          have hg2:b.convs.getD i default=b.convs[i]:=by simp [List.getD,hil2]
          obtain ⟨e1,e2,e3⟩:=law i _ _ (List.getElem?_eq_getElem hil) (List.getElem?_eq_getElem hil2)
          simp only [eq_true h,go_sem]
          generalize a.convs[i]=c at *
          generalize b.convs[i]=d at *
          with_reducible repeat' (first|rw [i64w (by omega)];try simp only [go_sem,getD_mp hil,getD_mp hil2,hg,hg2,e2,e3]|refine br ?_ ?_<;>intro h e<;>(try simp only [e,go_sem,getD_mp hil,getD_mp hil2,hg,hg2,e2,e3])<;>clear e|refine sd ?_<;>try simp only [go_sem,getD_mp hil,getD_mp hil2,hg,hg2,e2,e3]|fail)
          all_goals first
            | exact ⟨i+1,by omega,by omega,(leQ [])⟩
            | trace_state
        · simp only [eq_false h,go_sem]
          with_reducible repeat' (first|refine br ?_ ?_<;>intro h e<;>(try simp only [e,go_sem])<;>clear e|rw [i64w (by omega)]|refine sd ?_<;>try simp only [go_sem]|(first|refine cr (fu ..) ?_)<;>try simp only [go_sem]|fail)
      · rw [decide_eq_false hm2] at fq
        rw [decide_eq_true hm] at fp
        generalize rounds 6 w=a at *
        generalize rounds 6 x=b at *
        with_reducible repeat' (first|refine br ?_ ?_<;>intro h e<;>(try simp only [e,go_sem])<;>clear e|rw [i64w (by omega)]|refine sd ?_<;>try simp only [go_sem]|(first|refine cr (fc ..) ?_|refine cr (fd ..) ?_|refine cr (fp ..) ?_|refine cr (fq ..) ?_)<;>try simp only [go_sem]|fail)
    · rw [decide_eq_false hm] at fp
      generalize rounds 6 w=a at *
      generalize rounds 6 x=b at *
      with_reducible repeat' (first|refine br ?_ ?_<;>intro h e<;>(try simp only [e,go_sem])<;>clear e|rw [i64w (by omega)]|refine sd ?_<;>try simp only [go_sem]|(first|refine cr (fc ..) ?_|refine cr (fd ..) ?_|refine cr (fp ..) ?_)<;>try simp only [go_sem]|fail)
  · rw [hw]
    simp only [go_sem,Option.isSome_none,Option.getD_none,zero_e,List.map_nil,bff]
    with_reducible repeat' (first|refine br ?_ ?_<;>intro h e<;>(try simp only [e,go_sem,bff])<;>clear e|rw [i64w (by omega)]|refine sd ?_<;>try simp only [go_sem,bff]|fail)
    refine callF (c18 .zero zeroWB) [] true (by simp only [go_sem,zero_e,List.map_nil];first|done|simp) (by simp) rfl (.inl rfl) ?_
    simp only [go_sem,bff]
    with_reducible repeat' (first|refine br ?_ ?_<;>intro h e<;>(try simp only [e,go_sem,bff])<;>clear e|rw [i64w (by omega)]|refine sd ?_<;>try simp only [go_sem,bff]|fail)
    all_goals first
      | (refine callF (c18 .zero zeroWB) [] true (by simp only [go_sem,zero_e,List.map_nil];first|done|simp) (by simp) rfl (.inl rfl) ?_
         simp only [go_sem,bff];done)
      | skip
end Go.Proofs.YtgganfobejnfaaaGreatDoor.W
namespace Go.Proofs.YtgganfobejnfaaaGreatDoor.fnWorldForged
open Go Go.ChangeShapes Go.WideShapes Go.ChangeAt Go.RowKit Go.Proofs.YtgganfobejnfaaaGreatDoor.W
theorem walk (v0:Value) (W:World) (hs:W.ShapedOpen Tryz.prog) (hL:laidMetH Tryz.prog Rows.fnWorldForgedRow.laid W) (hv0:∃ code:M.B,VL.Den W noO noρ noH (.sl 1 (code.map M.byR)) v0) :
    Calls Tryz.prog 13 #[v0] W fun e W'=>e=.returned (.bool true)∧Below W.heap.size W W':=by
  obtain ⟨code,hdv0⟩:=hv0
  have:=Go.Proofs.YtgganfobejnfaaaGreatDoor.W.FnR.calls (c13 code) (us:=[v0]) (gOk rfl hL hs) ⟨rfl,fun j a b ha hb=>by
    match j,ha,hb with
    | 0,ha,hb=>cases ha;cases hb;exact hdv0
    | j+1,ha,hb=>simp at ha⟩
  exact this
set_option maxRecDepth 100000 in
theorem contract (H:Type) (enc:TypeId × Value→H) (W:World) (base:Nat) (args:Array Value) (ds gs:List (DataW H)) (before:List MemPlace)
    (hval:∀ (j:Nat) t v,Tryz.f13.params[j]?=some t→args[j]?=some v→Value.okWide Tryz.prog W .any base t v)
    (hW:DataW.Whole enc Tryz.prog Tryz.f13.params.toList Rows.fnWorldForgedSpec.vars false W args.toList ds gs before) (hL:laidMetH Tryz.prog Rows.fnWorldForgedRow.laid W) (hs:W.ShapedOpen Tryz.prog) :
    Calls Tryz.prog 13 args W fun e W'=>∃ v,e=.returned v∧Rows.fnWorldForgedSpec.post enc Tryz.prog Tryz.f13 false true false false W args v W':=by
  have hW':=hW
  obtain ⟨p,q,hA0,hV,rfl,hfz,hnd⟩:=hW
  have hA:DataW.TrodAll enc Tryz.prog W 0 (fun _=>true) true Tryz.f13.params.toList args.toList ds p:=hA0
  rw [Tryz.params13] at hA hval
  obtain ⟨v0,r0s,d0,d0s,p0,q0,hargs0,rfl,rfl,h0,r0⟩:=trodAll_cons hA
  obtain ⟨e1,e2,e3⟩:=trodAll_nil r0
  subst e1 e2 e3
  obtain rfl:args=#[v0]:=by cases args;simp_all
  obtain ⟨rfl,rfl⟩:=trodVars_none hV
  obtain ⟨a0,len0,cap0,hv0⟩:=okWide_slice Tryz.underlying22 (hval 0 22 v0 rfl rfl)
  have k0:=h0
  have lt0:∀ x∈p0,x.block<W.heap.size:=by obtain ⟨m,hm⟩:=k0;exact DataW.trod_lt m _ _ _ hm
  have hc0:=open_code h0 ⟨a0,len0,cap0,hv0⟩
  clear hA0
  refine (walk v0 W hs hL hc0).mono fun e W' ⟨he,bel⟩=>?_
  subst he
  exact ⟨_,rfl,_,_,_,[],_,[],hW',trodAll_mk1 (shut_bool Tryz.underlying4 _),(trodAll_cons_mk (Below.trod laidOut (by kernel_rfl) (of_decide_eq_true (by kernel_rfl)) k0 bel lt0) trodAll_mk0),rfl,bel.frame _,fun h=>by cases h⟩
theorem inP:(Rows.fnWorldForgedRow.inPlace == Tryz.prog.inPlace 13)=true:=by kernel_rfl
theorem unf:(Rows.fnWorldForgedRow.unfollowed == Tryz.prog.unfollowed 13)=true:=by kernel_rfl
theorem rcs:(Rows.fnWorldForgedRow.recurses == Tryz.prog.recurses 13)=true:=by kernel_rfl
theorem nam:(Rows.fnWorldForgedRow.named == Tryz.prog.varsNamed 13)=true:=by kernel_rfl
theorem lif:(Rows.fnWorldForgedRow.lifted == Tryz.prog.liftsFinal)=true:=lifF
theorem pke:(Rows.fnWorldForgedRow.plainKeys == Tryz.prog.plainKeys)=true:=pkeF
theorem mak:(Tryz.prog.make == some Rows.fnWorldForgedRow.make)=true:=makF
theorem closed0:joinedFacts Tryz.prog 13 Tryz.f13 Rows.fnWorldForgedSpec Rows.fnWorldForgedRow=true:=by
  unfold joinedFacts
  rw [laidOut,mapF,inP,unf,rcs,nam,pke,stoF,mayF,lif,mak]
  kernel_rfl
theorem closed:joinedFacts Tryz.pinned.checked.prog 13 Tryz.f13 (OpenSpec.ofChange Rows.fnWorldForgedSpec).bare Rows.fnWorldForgedRow=true :=
  (show joinedFacts Tryz.pinned.checked.prog 13 Tryz.f13 (OpenSpec.ofChange Rows.fnWorldForgedSpec).bare Rows.fnWorldForgedRow=joinedFacts Tryz.prog 13 Tryz.f13 Rows.fnWorldForgedSpec Rows.fnWorldForgedRow by kernel_rfl).trans closed0
theorem door_met (os:Os) (args:Array Value):laidMetH Tryz.prog Rows.fnWorldForgedRow.laid ((World.doorLaid Tryz.prog 400 os).forCall (fun _ _=>0) ⟨#[],args,[]⟩).memory :=
  laidMetH_of_parts3 (fuel:=8) (laidMet_of_run' 8 (by kernel_rfl) (by kernel_rfl)) (by kernel_rfl) (by kernel_rfl)
theorem reads (os:Os) {H:Type} (enc:TypeId × Value→H):∃ places,DataW.whole enc Tryz.prog ((World.doorLaid Tryz.prog 400 os).forCall (fun _ _=>0) ⟨#[],#[.slice none 0 0],[]⟩).memory Tryz.f13.params.toList Rows.fnWorldForgedSpec.vars false #[Value.slice none 0 0].toList 8=some ([.nil],[],places) :=
  ⟨[],by kernel_rfl⟩
set_option maxRecDepth 100000 in
theorem lifted (os:Os) (started:os.Started) (H:Type) (enc:TypeId × Value→H) (F:Stop.Interp) :
    ReturnsInHanded {} Tryz.checked os 13 .any ((OpenSpec.ofChange Rows.fnWorldForgedSpec).preRow enc Tryz.prog Tryz.f13 Rows.fnWorldForgedRow.domain false Rows.fnWorldForgedRow.laid) (((OpenSpec.ofChange Rows.fnWorldForgedSpec).at F).post enc Tryz.prog Tryz.f13 false true false false):=by
  obtain ⟨places,hx⟩:=reads os enc
  refine returnsInHanded_of_row (C:=Tryz.checked) (s:=OpenSpec.ofChange Rows.fnWorldForgedSpec) own started (by kernel_rfl) Tryz.func13
    (witness_row_atRef (enc:=enc) (C:=Tryz.checked) false (World.doorLaid Tryz.prog 400 os) #[.slice none 0 0] rfl (by kernel_rfl) (by kernel_rfl) (by kernel_rfl)
      (OpenSpec.preRow_of_cond 8 hx (by kernel_rfl) (fun k hk=>by cases hk) (by kernel_rfl) (door_met os _))) ?_
  intro W base args ds gs before hval hW _ _ _ hL hs _
  exact contract H enc W base args ds gs before hval hW hL hs
theorem said:Rows.FnWorldForgedSaid :=
  OpenClaim.holds_of_cond 13 Tryz.f13 rfl rfl rfl rfl rfl rfl rfl ⟨rfl,rfl,rfl,rfl,rfl⟩ rfl rfl rfl rfl rfl (by kernel_rfl) Tryz.func13 closed
    (of_decide_eq_true (by kernel_rfl)) (by unfold Func.isWrapper;first|(rw [if_pos (by decide +kernel)];kernel_rfl)|(rw [if_neg (by decide +kernel)];exact ⟨rfl,rfl⟩))
    (fun os started H enc _ F=>by rw [OpenClaim.pre_eq_preRow];exact lifted os started H enc F)
theorem plain (f:FuncId) (fn:Func) (hf:Tryz.pinned.checked.prog.funcNamed "loop.example/ostiary/laws.FnWorldForged"=some f) (hfn:Tryz.pinned.checked.prog.funcs[f]?=some fn) :
    true=Tryz.pinned.checked.prog.looks []∧∀ (j:Nat) t,fn.params[j]?=some t→Tryz.pinned.checked.prog.wantsStandIn t=false:=by
  obtain rfl:f=13:=Option.some.inj ((show Tryz.prog.funcNamed "loop.example/ostiary/laws.FnWorldForged"=some 13 by kernel_rfl).symm.trans hf) |>.symm
  obtain rfl:fn=Tryz.f13:=(Option.some.inj (Tryz.func13.symm.trans hfn)).symm
  refine ⟨by kernel_rfl,fun j t ht=>?_⟩
  rw [Tryz.params13] at ht
  obtain rfl:t=22:=by simpa using Array.mem_of_getElem? ht
  exact (show Tryz.prog.wantsStandIn 22=false by kernel_rfl)
theorem card:Rows.FnWorldForgedCardSaid :=
  Claim7.holds_tied_plain_at .later [] _ _ _ _ said (fun _ h=>by cases h) (by kernel_rfl) (fun _ h=>by cases h) fnWorldForged_row_tie rfl ⟨rfl,rfl⟩ (by kernel_rfl) rfl plain (by kernel_rfl)
end Go.Proofs.YtgganfobejnfaaaGreatDoor.fnWorldForged
