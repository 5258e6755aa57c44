/- FnWorldNobody: where nobody says anything nothing happens. Conditions: those of the row alone. -/
import Derived.Test.YtgganfobejnfaaaGreatDoorX03
import Derived.Test.YtgganfobejnfaaaGreatDoorX07
import Derived.Test.YtgganfobejnfaaaGreatDoorX04
import Derived.Test.YtgganfobejnfaaaGreatDoorCards
import Derived.Test.YtgganfobejnfaaaGreatDoorTie
set_option linter.all false
namespace Go.Proofs.YtgganfobejnfaaaGreatDoor.M
theorem wDo_zero {e:Ev} (h:e.kind≠6):wDo .zero e=.zero:=by
  have hs:∀ up a b c,sayW .zero up a b c=none:=fun up a b c=>by
    unfold sayW
    rw [if_neg]
    rw [within_iff]
    simp only [World.zero,List.length_nil]
    omega
  have hw:within e.a 0 ((World.zero.nets.length:Int) - 1)=false:=by
    cases hb:within e.a 0 ((World.zero.nets.length:Int) - 1) with
    | false=>rfl
    | true=>rw [within_iff] at hb;simp only [World.zero,List.length_nil] at hb;omega
  unfold wDo
  simp only [hs,hw,send,if_neg h]
  simp
theorem play_zero:∀ (es:List Ev),(∀ e∈es,e.kind≠6)→es.foldl wDo .zero=.zero
  | [],_=>rfl
  | e :: es,h=>by
    rw [List.foldl_cons,wDo_zero (h e (by simp))]
    exact play_zero es fun e he=>h e (by simp [he])
theorem new_nil:worldNew []=some .zero:=by
  have:together []=true:=together_iff.2 ⟨by simp,fun i hi=>by simp at hi⟩
  simp only [worldNew,newConvs,this,if_true]
  rfl
theorem law_nobody {es:List Ev} (hl:es.length≤60) (h:∀ e∈es,e.kind≠6):worldPlay [] es=some .zero:=by
  rw [worldPlay,new_nil]
  simp only [if_pos hl,play_zero es h]
end Go.Proofs.YtgganfobejnfaaaGreatDoor.M
namespace Go.Proofs.YtgganfobejnfaaaGreatDoor.W
open Go Go.RowKit Go.Proofs Go.Proofs.YtgganfobejnfaaaGreatDoor.VL Go.Proofs.YtgganfobejnfaaaGreatDoor.M
attribute [local congr] optK_congr guardK_congr condK_congr runT_congr runD_congr wpI_congr CallV_congr LoopI_congr pureK_congr effK_congr calK_congr stepV_congr doV_congr exN_congr exB_congr retF_congr retQ_congr gK_congr condW_congr ldK_congr stoK_congr
attribute [local go_sem] argL_cons argL_nil argH_nil argH_cons chH_getH wpI_seq wpI_reg wpI_drw wpI_ret cond_k condW_t condW_f wpI_skip wpI_block wpI_exit wpI_loop exN_n exN_r exN_e exB_n exB_r exB_h exB_m runT_k kT_e runT_nil runD_k kD_e runD_nil step_u step_k gK_t gK_f do_mv do_bino bo_add bo_sub bo_mul bo_subu bo_quo bo_rem bo_xor bo_eql bo_neq bo_lss bo_leq bo_gtr bo_geq bo_cat bo_eqs bo_nes do_pick do_call do_cal calK_f do_box do_alloc do_ldk ldK_s do_stok stoK_s do_fad do_nilc do_not do_neg do_len do_lens do_ext do_eqs do_beq do_isn do_cvi do_sls do_idx do_mn do_mx do_build do_mkf do_s2b do_b2s do_slv do_iad do_bsl do_mks do_app ev_t ev_c app_some app_none
attribute [local go_sem] List.nil_append List.cons_append List.append_nil getL_hit getL_miss getH_nil getH_hit getH_miss nm_eq ne_eq Nat.reduceEqDiff not_false_eq_true Nat.reduceAdd Nat.add_zero Nat.zero_add if_true if_false ite_true ite_false pureK_s effK_s optK_s gdV_t gdV_f gdV_s pick_b ge_iff_le gt_iff_lt cond_true cond_false fresh_k cells_agg cells_int cells_bool cells_str cells_own cells_sl cells_nils ld_pv ld_pa ld_ip ldVar_t ldVar_f ldArr_t ldArr_f ldRow_t ldRow_f ldA_s ld1_s fad_pv fad_pa fad_ip nilc_pv nilc_pa nilc_ip not_b neg_i cvi_i ext_t retF_n retF_r
attribute [local go_sem] resV_k rvs_nil rvs_t rvs_c fstO_s consO_s resK_s resL_1 resL_2 resL_3 resL_4  Option.some.injEq List.map_cons List.map_nil List.all_cons List.all_nil Bool.and_true Bool.and_self Bool.not_true Bool.not_false Option.map_some Option.map_none sls_s slsG_s loV_n loV_i hiV_n hiV_i idx_s mn_i mx_i s2b_s b2s_s bytO_s bytes_nil bytes_cons conB_s slv_sl slv_own slv_nils slvG_s slvN_s slvO_s iad_sl iadG_map take_map drop_map List.length_map iad_own iad_view iadO_a iadW_a mks_i rowO_nils rowO_sl rowO_own rowA_a eq_self appG_nils appG_own appO_a guardP_T mapA_s bld_nil mkf_nil bldF_e fill_nil fill_cons mkf_e lens_s len_nils len_sl len_own len_view isn_nile isn_erre List.getElem?_cons_zero List.getElem?_cons_succ List.length_cons List.length_nil decide_true decide_false Int.toNat_natCast Int.cast_ofNat_Int Int.reduceLT Int.reduceLE Int.reduceEq Int.reduceAdd Int.reduceSub Int.reduceMul Int.reduceNeg Int.reduceToNat List.getD_cons_zero List.getD_cons_succ not_true_eq_false not_false_eq_true Bool.false_eq_true Bool.true_eq_false reduceCtorEq
attribute [local go_sem] E.row Pc.row Pair.row Part.row Strm.row Flw.row Pk.row Door.row Conv.row World.row Ev.row rdV E.eta Pc.eta Pair.eta Part.eta Strm.eta Pk.eta Flw.eta Conv.eta Door.eta World.eta Ev.eta
attribute [local go_sem] sub_ok st_pv st_pa stVar_v stArr_a Nat.le_refl List.drop_zero List.drop_succ_cons List.take_succ_cons List.take_zero setR Nat.reduceLeDiff
attribute [local go_sem] wk_bot wk2_bot wk1_bot wk_undef wk_tup_e wk2_agg_e wk_agg_e wk1_fn_e wk2_fn_e wk_fn_e wkl_nil wkl_cons wkh_var_e wkh_arr_e wkh_fresh_e wkh_dead_v wkh_dead_a wkh_dead_d wk0_undef wk0_int wk0_bool wk0_str wk0_nils wk0_nils_sl wk0_nilp wk0_nile wk0_erre wk0_sl wk0_iptr wk0_own wk0_view wk0_pv wk0_pa fzA_a fzW_a fzP_v wk0_own_sl wk0_view_sl wk0_pv_iptr WkS_nil WkS_cons WkN_nil WkN_cons nonB_nil nonB_cons getN_nil getN_hit getN_miss pinOk_0 pinOk_s and_true true_and and_self
attribute [local go_sem] bot_int one_int unt_int clo_int bot_bool one_bool unt_bool clo_bool bot_str one_str unt_str clo_str bot_nils one_nils unt_nils clo_nils bot_nilp one_nilp unt_nilp clo_nilp bot_nile one_nile unt_nile clo_nile bot_erre one_erre unt_erre clo_erre bot_raw one_raw unt_raw clo_raw bot_sl one_sl unt_sl clo_sl bot_own one_own unt_own clo_own bot_view one_view unt_view clo_view bot_pv one_pv unt_pv clo_pv bot_pa one_pa unt_pa clo_pa bot_iptr one_iptr unt_iptr clo_iptr unt_agg unt_fn one_fn
attribute [local go_sem] rn_tup rn_agg rn2_agg rn_fn rn2_fn rnfn1 rn_bot rn2_bot rn1_bot rn0_int rn0_bool rn0_str rn0_nils rn0_nilp rn0_nile rn0_erre rn0_sl rn0_iptr rn0_own rn0_view rn0_pv rn0_pa hrn_var hrn_arr hrn_dead outU_nil outU_cons deads_nil deads_cons bk_ge bk_lt nsF_0 nsF_s chH_0 chH_s chH_n newN_e andB_s eqR_nil eqR_i eqR_b eqR_s mapX_f mapX_t eqs_a beq_f beq_t live_arr live_var nsl_nil nsl_cons Nat.reduceMul Nat.reduceLT Nat.zero_le Nat.not_lt_zero
attribute [local go_sem] mV lD lA fD bN eX oP nP sR i0 s0
def ic9:IC:=sR [oP 4 (.mv (.c (.bool false)))] (.seq (sR [mV 17 0,oP 18 (.len (.t 17)),oP 19 (.bin .gtr (.t 18) (.c (.int .i64 1048576))),mV 20 19,⟨some 21,some (20,false),.mv (.t 1)⟩,⟨some 22,some (20,false),.len (.t 21)⟩,⟨some 23,some (20,false),.bin .gtr (.t 22) (.c (.int .i64 1048576))⟩,oP 24 (.pick (.t 20) (.c (.bool true)) (.t 23))] (.cond (.t 24) (sR [oP 4 (.mv (.c (.bool true)))] .ret) .skip)) (sR [mV 26 0,oP 27 (.call 15 [.t 26]),mV 25 27,eX 28 25 0,eX 29 25 1,mV 5 28,mV 6 29] (sR [mV 31 5,mV 32 6,oP 33 (.call 16 [.t 31,.t 32]),mV 30 33,eX 34 30 0,eX 35 30 1,oP 7 (.alloc 33 [.nils,.nils,.nils,.nils]),nP (.sto 4 (.t 7) (.t 34)),mV 8 35] (sR [mV 37 5,mV 38 6,oP 39 (.call 17 [.t 37,.t 38]),mV 36 39,eX 40 36 0,eX 41 36 1,oP 9 (.alloc 33 [.nils,.nils,.nils,.nils]),nP (.sto 4 (.t 9) (.t 40)),mV 10 41] (.seq (sR [mV 42 8,mV 43 10,oP 44 (.beq true (.t 42) (.t 43)),mV 45 44,⟨some 46,some (45,false),.ld 4 true (.t 7)⟩,⟨some 47,some (45,false),.ld 4 true (.t 9)⟩,⟨some 48,some (45,false),.call 18 [.t 46,.t 47]⟩,⟨some 49,some (45,false),.un .not (.t 48)⟩,oP 50 (.pick (.t 45) (.c (.bool true)) (.t 49)),mV 51 50,⟨some 52,some (51,false),.mv (.t 8)⟩,⟨some 53,some (51,false),.un .not (.t 52)⟩,oP 54 (.pick (.t 51) (.c (.bool true)) (.t 53))] (.cond (.t 54) (sR [mV 55 8,mV 56 10,oP 57 (.beq false (.t 55) (.t 56)),mV 58 57,⟨some 59,some (58,true),.ld 4 true (.t 7)⟩,⟨some 60,some (58,true),.ld 4 true (.t 9)⟩,⟨some 61,some (58,true),.call 18 [.t 59,.t 60]⟩,oP 62 (.pick (.t 58) (.t 61) (.c (.bool false))),mV 4 62] .ret) .skip)) (sR [oP 64 (.call 30 [.c .nils]),mV 63 64,eX 65 63 0,eX 66 63 1,oP 11 (.alloc 33 [.nils,.nils,.nils,.nils]),nP (.sto 4 (.t 11) (.t 65)),mV 12 66] (sR [oP 67 (.bsl 53 11 []),mV 13 67] (.seq (sR [oP 14 (.mv (.c i0))] (.block 0 (.loop (.seq (sR [mV 68 14,mV 69 6,oP 70 (.len (.t 69)),bN 71 .lss 68 70] (.cond (.t 71) .skip (.exit 0))) (.seq (.block 1 (sR [mV 74 6,mV 75 14,oP 76 (.iad 11 (.t 74) (.t 75)),fD 77 0 76,lD 78 1 77,oP 79 (.bin .neq (.t 78) (.c (.int .i64 6)))] (.cond (.t 79) (.reg [mV 80 13,mV 81 6,mV 82 14,oP 83 (.iad 11 (.t 81) (.t 82)),lA 84 11 83,oP 85 (.bsl 53 11 [.t 84]),oP 86 (.app 53 11 (.t 80) (.t 85)),mV 13 86]) .skip))) (.reg [mV 72 14,oP 73 (.bin .add (.t 72) (.c (.int .i64 1))),mV 14 73])))))) (sR [mV 88 13,oP 89 (.call 16 [.c .nils,.t 88]),mV 87 89,eX 90 87 0,eX 91 87 1,oP 15 (.alloc 33 [.nils,.nils,.nils,.nils]),nP (.sto 4 (.t 15) (.t 90)),mV 16 91] (.seq (.drw [0,1,3,7,15,31,31,127,255,511,1023,1023,3071,7167,16383,1023,65535,131071,262143] [(0,mV 92 12),(1,mV 93 92),(2,⟨some 94,some (93,true),.mv (.t 16)⟩),(3,oP 95 (.pick (.t 93) (.t 94) (.c (.bool false)))),(4,mV 96 95),(5,⟨some 97,some (96,true),.ld 4 true (.t 11)⟩),(6,⟨some 98,some (96,true),.ld 4 true (.t 15)⟩),(7,⟨some 99,some (96,true),.call 18 [.t 97,.t 98]⟩),(8,oP 100 (.pick (.t 96) (.t 99) (.c (.bool false)))),(9,mV 101 100),(10,⟨some 102,some (101,true),.ld 4 true (.t 11)⟩),(11,⟨some 103,some (101,true),.mv (.t 1)⟩),(12,⟨some 104,some (101,true),.len (.t 103)⟩),(13,⟨some 105,some (101,true),.bin .rem (.t 104) (.c (.int .i64 7))⟩),(14,⟨some 106,some (101,true),.call 31 [.t 102,.t 105]⟩),(15,⟨some 107,some (101,true),.ld 4 true (.t 11)⟩),(16,⟨some 108,some (101,true),.call 18 [.t 106,.t 107]⟩),(17,oP 109 (.pick (.t 101) (.t 108) (.c (.bool false)))),(18,mV 4 109)]) .ret))))))))))
theorem dg9:Dg Tryz.prog 9 Tryz.f9 ic9 [(.t 4)]:=⟨Tryz.func9,by kernel_rfl,by kernel_rfl⟩
theorem c9 (code more:B):FnR Tryz.prog G 9 [.sl 1 (code.map byR),.sl 1 (more.map byR)] (.bool true):=by
  refine mF dg9 Tryz.ntmps9 ?_
  simp only [ic9,go_sem]
  by_cases hc:(1048576:Int)<code.length
  · simp only [eq_true hc,go_sem]
  simp only [eq_false hc,go_sem]
  by_cases hm:(1048576:Int)<more.length
  · simp only [eq_true hm,go_sem]
  simp only [eq_false hm,go_sem]
  refine callO (c15 code (by omega)) [] 27 0 (by simp only [go_sem];first|done|simp) (by simp) (by rintro _ _ ⟨_,_,_,_,_,rfl⟩;simp) (by intro i hi;omega) ?_
  rintro _ _ ⟨cs,es,⟨⟨hc1,hc2⟩,hcB⟩,⟨he1,heB⟩,rfl,rfl⟩
  simp only [go_sem]
  have fi:∀ es':List Ev,es'.length≤es.length→(∀ e∈es',e∈es)→_:=fun es' h1 h2=>c16 cs es' (by omega) (fun c h=>by have:=hcB c h;omega) (by omega) (fun e h=>by have:=heB e (h2 e h);omega)
  have f1:=fi es (Nat.le_refl _) fun e h=>h
  with_reducible repeat' (first|refine br ?_ ?_<;>intro h e<;>(try simp only [e,go_sem])<;>clear e|rw [i64w (by omega)]|refine sd ?_<;>try simp only [go_sem]|(first|refine cr (f1 ..) ?_)<;>try simp only [go_sem]|fail)
  refine callO (c17 cs es (by omega) (fun c h=>by have:=hcB c h;omega) (by omega) (fun e h=>by have:=heB e h;omega)) [] 39 4 (by simp only [go_sem];first|done|simp) (by simp) (by rintro _ _ (⟨w,_,rfl,rfl⟩|⟨_,rfl,rfl⟩)<;>simp) (by intro i hi;rcases (show i=0∨i=1∨i=2∨i=3 by omega) with rfl|rfl|rfl|rfl<;>simp only [go_sem]) ?_
  rintro _ _ (⟨w,hw,rfl,rfl⟩|⟨hw,rfl,rfl⟩)
  · rw [hw]
    have hwi:=play_wi hw
    have hcl:=hwi.cl
    have hnl:=hwi.nl
    simp only [go_sem,Option.isSome_some,Option.getD_some,btt]
    with_reducible repeat' (first|refine br ?_ ?_<;>intro h e<;>(try simp only [e,go_sem,btt])<;>clear e|rw [i64w (by omega)]|refine sd ?_<;>try simp only [go_sem,btt]|fail)
    refine callF (c18 w (wi_wb hwi)) [103900,103901,103902,103903] false (by simp only [go_sem];first|done|simp [E.row,Pc.row,Pair.row,Part.row,Flw.row,Pk.row,Conv.row]) (by simp only [List.mem_cons,List.not_mem_nil,or_false];rintro c (rfl|rfl|rfl|rfl)<;>simp only [go_sem]) rfl (.inr rfl) ?_
    simp only [go_sem]
    have hq:=law_nobody (es:=quiet 6 es) (by have:=quiet_len 6 es;have:=(worldPlay_is hw).choose_spec.2.1;omega) fun e h=>quiet_ne h
    have s0:SI CK CN .zero:=play_calm hq
    obtain ⟨k,hk,hk7⟩:=tmod_nat more.length 7 (by decide)
    rw [show ((7:Nat):Int)=7 from rfl] at hk
    refine callO (c30 [] (by simp) (by simp)) [] 64 1 (by simp only [go_sem];first|done|simp) (by simp) (by rintro _ _ (⟨w,_,rfl,rfl⟩|⟨_,rfl,rfl⟩)<;>simp) (by intro i hi;obtain rfl:i=0:=(by omega);simp only [go_sem]) ?_
    rintro _ _ (⟨w0,hw0,rfl,rfl⟩|⟨hw0,rfl,rfl⟩)
    rotate_left
    · rw [new_nil] at hw0;cases hw0
    rw [new_nil] at hw0;cases hw0
    simp only [go_sem,M.World.zero]
    with_reducible repeat' (first|refine br ?_ ?_<;>intro h e<;>(try simp only [e,go_sem])<;>clear e|rw [i64w (by omega)]|refine sd ?_<;>try simp only [go_sem]|fail)
    refine loopN (fun i:Nat=>⟨getL [(1,.sl 1 (more.map byR)),(6,.sl 11 (es.map Ev.row)),(11,.pv 1011 0),(12,.bool true),(13,.own 1067 (quiet 6 (es.take i)).length),(14,.int .i64 (i:Int))],getH [(1011,.var 33 [.sl 10 [],.sl 3 [],.sl 8 [],.sl 7 []]),(1067,.arr 53 11 ((quiet 6 (es.take i)).map Ev.row))]⟩) (fun i=>es.length - i) (fun i=>i≤es.length) 0 (by rw [List.take_zero,quiet_nil];exact (leQ [])) (Nat.zero_le _) ?_
    intro i hi
    have hfl:=quiet_len 6 (es.take i)
    have htl:=List.length_take_le i es
    simp only [go_sem]
    by_cases h:(i:Int)<es.length
    · have hil:i<es.length:=by omega
      have hg:es.getD i default=es[i]:=by simp [List.getD,hil]
      have htk:es.take (i+1)=es.take i++[es[i]]:=by rw [List.take_add_one,List.getElem?_eq_getElem hil];rfl
      simp only [eq_true h,go_sem]
      generalize es[i]=e at *
      with_reducible repeat' (first|refine br ?_ ?_<;>intro h e<;>(try simp only [e,go_sem,hg])<;>clear e|rw [i64w (by omega)]|refine sd ?_<;>try simp only [go_sem,hg]|fail)
      · refine ⟨i+1,by omega,by omega, ?_⟩
        rw [htk,quiet_f (by assumption)]
        exact (leQ [])
      · refine ⟨i+1,by omega,by omega, ?_⟩
        rw [htk,quiet_t (by assumption)]
        refine leN [(1067,1086)] ?_ ?_ (by simp [getN]) (by simp only [go_sem])
        · simp only [go_sem];simp
        · simp only [go_sem];simp [Ev.row]
    simp only [eq_false h,go_sem]
    have hie:i=es.length:=by omega
    subst hie
    rw [List.take_length] at *
    have f2:=c16 [] (quiet 6 es) (by simp) (by simp) (by omega) (fun e h=>by have:=heB e (quiet_mem h);omega)
    rw [hq] at f2
    have fc:=c31 .zero k (by omega) s0.wi (si_ok s0)
    rw [rounds_still k s0 rfl (fun c hc=>by cases hc)] at fc
    have fz:=c18 .zero zeroWB
    simp only [Option.isSome_some,Option.getD_some,M.World.zero,Door.zero,List.map_nil] at f2 fc fz
    with_reducible repeat' (first|refine br ?_ ?_<;>intro h e<;>(try simp only [e,go_sem])<;>clear e|rw [i64w (by omega)]|refine sd ?_<;>try simp only [go_sem]|fail)
    refine callF f2 [1067] true (by simp only [go_sem];first|done|simp) (by simp only [List.mem_singleton];rintro c rfl;rfl) rfl (.inl rfl) ?_
    simp only [go_sem]
    with_reducible repeat' (first|refine br ?_ ?_<;>intro h e<;>(try simp only [e,go_sem,hk])<;>clear e|rw [i64w (by omega)]|refine sd ?_<;>try simp only [go_sem,hk]|(first|refine cr (fz ..) ?_|refine cr (fc ..) ?_)<;>try simp only [go_sem,hk]|fail)
    all_goals trace_state
  · rw [hw]
    simp only [go_sem,Option.isSome_none,Option.getD_none,zero_e,List.map_nil,bff]
    with_reducible repeat' (first|refine br ?_ ?_<;>intro h e<;>(try simp only [e,go_sem,bff])<;>clear e|rw [i64w (by omega)]|refine sd ?_<;>try simp only [go_sem,bff]|fail)
    refine callF (c18 .zero zeroWB) [] true (by simp only [go_sem,zero_e,List.map_nil];first|done|simp) (by simp) rfl (.inl rfl) ?_
    simp only [go_sem,bff]
    with_reducible repeat' (first|refine br ?_ ?_<;>intro h e<;>(try simp only [e,go_sem,bff])<;>clear e|rw [i64w (by omega)]|refine sd ?_<;>try simp only [go_sem,bff]|fail)
    all_goals first
      | (refine callF (c18 .zero zeroWB) [] true (by simp only [go_sem,zero_e,List.map_nil];first|done|simp) (by simp) rfl (.inl rfl) ?_
         simp only [go_sem,bff];done)
      | skip
end Go.Proofs.YtgganfobejnfaaaGreatDoor.W
namespace Go.Proofs.YtgganfobejnfaaaGreatDoor.fnWorldNobody
open Go Go.ChangeShapes Go.WideShapes Go.ChangeAt Go.RowKit Go.Proofs.YtgganfobejnfaaaGreatDoor.W
theorem walk (v0 v1:Value) (W:World) (hs:W.ShapedOpen Tryz.prog) (hL:laidMetH Tryz.prog Rows.fnWorldNobodyRow.laid W) (hv0:∃ code:M.B,VL.Den W noO noρ noH (.sl 1 (code.map M.byR)) v0) (hv1:∃ code:M.B,VL.Den W noO noρ noH (.sl 1 (code.map M.byR)) v1) :
    Calls Tryz.prog 9 #[v0,v1] W fun e W'=>e=.returned (.bool true)∧Below W.heap.size W W':=by
  obtain ⟨code,hdv0⟩:=hv0
  obtain ⟨more,hdv1⟩:=hv1
  have:=Go.Proofs.YtgganfobejnfaaaGreatDoor.W.FnR.calls (c9 code more) (us:=[v0,v1]) (gOk rfl hL hs) ⟨rfl,fun j a b ha hb=>by
    match j,ha,hb with
    | 0,ha,hb=>cases ha;cases hb;exact hdv0
    | 1,ha,hb=>cases ha;cases hb;exact hdv1
    | j+2,ha,hb=>simp at ha⟩
  exact this
set_option maxRecDepth 100000 in
theorem contract (H:Type) (enc:TypeId × Value→H) (W:World) (base:Nat) (args:Array Value) (ds gs:List (DataW H)) (before:List MemPlace)
    (hval:∀ (j:Nat) t v,Tryz.f9.params[j]?=some t→args[j]?=some v→Value.okWide Tryz.prog W .any base t v)
    (hW:DataW.Whole enc Tryz.prog Tryz.f9.params.toList Rows.fnWorldNobodySpec.vars false W args.toList ds gs before) (hL:laidMetH Tryz.prog Rows.fnWorldNobodyRow.laid W) (hs:W.ShapedOpen Tryz.prog) :
    Calls Tryz.prog 9 args W fun e W'=>∃ v,e=.returned v∧Rows.fnWorldNobodySpec.post enc Tryz.prog Tryz.f9 false true false false W args v W':=by
  have hW':=hW
  obtain ⟨p,q,hA0,hV,rfl,hfz,hnd⟩:=hW
  have hA:DataW.TrodAll enc Tryz.prog W 0 (fun _=>true) true Tryz.f9.params.toList args.toList ds p:=hA0
  rw [Tryz.params9] at hA hval
  obtain ⟨v0,r0s,d0,d0s,p0,q0,hargs0,rfl,rfl,h0,r0⟩:=trodAll_cons hA
  obtain ⟨v1,r1s,d1,d1s,p1,q1,hargs1,rfl,rfl,h1,r1⟩:=trodAll_cons r0
  obtain ⟨e1,e2,e3⟩:=trodAll_nil r1
  subst e1 e2 e3
  obtain rfl:args=#[v0,v1]:=by cases args;simp_all
  obtain ⟨rfl,rfl⟩:=trodVars_none hV
  obtain ⟨a0,len0,cap0,hv0⟩:=okWide_slice Tryz.underlying22 (hval 0 22 v0 rfl rfl)
  have k0:=h0
  have lt0:∀ x∈p0,x.block<W.heap.size:=by obtain ⟨m,hm⟩:=k0;exact DataW.trod_lt m _ _ _ hm
  have hc0:=open_code h0 ⟨a0,len0,cap0,hv0⟩
  obtain ⟨a1,len1,cap1,hv1⟩:=okWide_slice Tryz.underlying22 (hval 1 22 v1 rfl rfl)
  have k1:=h1
  have lt1:∀ x∈p1,x.block<W.heap.size:=by obtain ⟨m,hm⟩:=k1;exact DataW.trod_lt m _ _ _ hm
  have hc1:=open_code h1 ⟨a1,len1,cap1,hv1⟩
  clear hA0
  refine (walk v0 v1 W hs hL hc0 hc1).mono fun e W' ⟨he,bel⟩=>?_
  subst he
  exact ⟨_,rfl,_,_,_,[],_,[],hW',trodAll_mk1 (shut_bool Tryz.underlying4 _),(trodAll_cons_mk (Below.trod laidOut (by kernel_rfl) (of_decide_eq_true (by kernel_rfl)) k0 bel lt0) (trodAll_cons_mk (Below.trod laidOut (by kernel_rfl) (of_decide_eq_true (by kernel_rfl)) k1 bel lt1) trodAll_mk0)),rfl,bel.frame _,fun h=>by cases h⟩
theorem inP:(Rows.fnWorldNobodyRow.inPlace == Tryz.prog.inPlace 9)=true:=by kernel_rfl
theorem unf:(Rows.fnWorldNobodyRow.unfollowed == Tryz.prog.unfollowed 9)=true:=by kernel_rfl
theorem rcs:(Rows.fnWorldNobodyRow.recurses == Tryz.prog.recurses 9)=true:=by kernel_rfl
theorem nam:(Rows.fnWorldNobodyRow.named == Tryz.prog.varsNamed 9)=true:=by kernel_rfl
theorem lif:(Rows.fnWorldNobodyRow.lifted == Tryz.prog.liftsFinal)=true:=lifF
theorem pke:(Rows.fnWorldNobodyRow.plainKeys == Tryz.prog.plainKeys)=true:=pkeF
theorem mak:(Tryz.prog.make == some Rows.fnWorldNobodyRow.make)=true:=makF
theorem closed0:joinedFacts Tryz.prog 9 Tryz.f9 Rows.fnWorldNobodySpec Rows.fnWorldNobodyRow=true:=by
  unfold joinedFacts
  rw [laidOut,mapF,inP,unf,rcs,nam,pke,stoF,mayF,lif,mak]
  kernel_rfl
theorem closed:joinedFacts Tryz.pinned.checked.prog 9 Tryz.f9 (OpenSpec.ofChange Rows.fnWorldNobodySpec).bare Rows.fnWorldNobodyRow=true :=
  (show joinedFacts Tryz.pinned.checked.prog 9 Tryz.f9 (OpenSpec.ofChange Rows.fnWorldNobodySpec).bare Rows.fnWorldNobodyRow=joinedFacts Tryz.prog 9 Tryz.f9 Rows.fnWorldNobodySpec Rows.fnWorldNobodyRow by kernel_rfl).trans closed0
theorem door_met (os:Os) (args:Array Value):laidMetH Tryz.prog Rows.fnWorldNobodyRow.laid ((World.doorLaid Tryz.prog 400 os).forCall (fun _ _=>0) ⟨#[],args,[]⟩).memory :=
  laidMetH_of_parts3 (fuel:=8) (laidMet_of_run' 8 (by kernel_rfl) (by kernel_rfl)) (by kernel_rfl) (by kernel_rfl)
theorem reads (os:Os) {H:Type} (enc:TypeId × Value→H):∃ places,DataW.whole enc Tryz.prog ((World.doorLaid Tryz.prog 400 os).forCall (fun _ _=>0) ⟨#[],#[.slice none 0 0,.slice none 0 0],[]⟩).memory Tryz.f9.params.toList Rows.fnWorldNobodySpec.vars false #[Value.slice none 0 0,Value.slice none 0 0].toList 8=some ([.nil,.nil],[],places) :=
  ⟨[],by kernel_rfl⟩
set_option maxRecDepth 100000 in
theorem lifted (os:Os) (started:os.Started) (H:Type) (enc:TypeId × Value→H) (F:Stop.Interp) :
    ReturnsInHanded {} Tryz.checked os 9 .any ((OpenSpec.ofChange Rows.fnWorldNobodySpec).preRow enc Tryz.prog Tryz.f9 Rows.fnWorldNobodyRow.domain false Rows.fnWorldNobodyRow.laid) (((OpenSpec.ofChange Rows.fnWorldNobodySpec).at F).post enc Tryz.prog Tryz.f9 false true false false):=by
  obtain ⟨places,hx⟩:=reads os enc
  refine returnsInHanded_of_row (C:=Tryz.checked) (s:=OpenSpec.ofChange Rows.fnWorldNobodySpec) own started (by kernel_rfl) Tryz.func9
    (witness_row_atRef (enc:=enc) (C:=Tryz.checked) false (World.doorLaid Tryz.prog 400 os) #[.slice none 0 0,.slice none 0 0] rfl (by kernel_rfl) (by kernel_rfl) (by kernel_rfl)
      (OpenSpec.preRow_of_cond 8 hx (by kernel_rfl) (fun k hk=>by cases hk) (by kernel_rfl) (door_met os _))) ?_
  intro W base args ds gs before hval hW _ _ _ hL hs _
  exact contract H enc W base args ds gs before hval hW hL hs
theorem said:Rows.FnWorldNobodySaid :=
  OpenClaim.holds_of_cond 9 Tryz.f9 rfl rfl rfl rfl rfl rfl rfl ⟨rfl,rfl,rfl,rfl,rfl⟩ rfl rfl rfl rfl rfl (by kernel_rfl) Tryz.func9 closed
    (of_decide_eq_true (by kernel_rfl)) (by unfold Func.isWrapper;first|(rw [if_pos (by decide +kernel)];kernel_rfl)|(rw [if_neg (by decide +kernel)];exact ⟨rfl,rfl⟩))
    (fun os started H enc _ F=>by rw [OpenClaim.pre_eq_preRow];exact lifted os started H enc F)
theorem plain (f:FuncId) (fn:Func) (hf:Tryz.pinned.checked.prog.funcNamed "loop.example/ostiary/laws.FnWorldNobody"=some f) (hfn:Tryz.pinned.checked.prog.funcs[f]?=some fn) :
    true=Tryz.pinned.checked.prog.looks []∧∀ (j:Nat) t,fn.params[j]?=some t→Tryz.pinned.checked.prog.wantsStandIn t=false:=by
  obtain rfl:f=9:=Option.some.inj ((show Tryz.prog.funcNamed "loop.example/ostiary/laws.FnWorldNobody"=some 9 by kernel_rfl).symm.trans hf) |>.symm
  obtain rfl:fn=Tryz.f9:=(Option.some.inj (Tryz.func9.symm.trans hfn)).symm
  refine ⟨by kernel_rfl,fun j t ht=>?_⟩
  rw [Tryz.params9] at ht
  obtain rfl:t=22:=by simpa using Array.mem_of_getElem? ht
  exact (show Tryz.prog.wantsStandIn 22=false by kernel_rfl)
theorem card:Rows.FnWorldNobodyCardSaid :=
  Claim7.holds_tied_plain_at .later [] _ _ _ _ said (fun _ h=>by cases h) (by kernel_rfl) (fun _ h=>by cases h) fnWorldNobody_row_tie rfl ⟨rfl,rfl⟩ (by kernel_rfl) rfl plain (by kernel_rfl)
end Go.Proofs.YtgganfobejnfaaaGreatDoor.fnWorldNobody
