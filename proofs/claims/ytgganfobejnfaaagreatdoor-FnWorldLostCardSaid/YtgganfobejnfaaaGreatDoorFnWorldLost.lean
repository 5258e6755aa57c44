/- FnWorldLost: what is lost is said again, behind a drawn play. Conditions: those of the row alone. -/
import Derived.Test.YtgganfobejnfaaaGreatDoorX07
import Derived.Test.YtgganfobejnfaaaGreatDoorX03
import Derived.Test.YtgganfobejnfaaaGreatDoorX04
import Derived.Test.YtgganfobejnfaaaGreatDoorCards
import Derived.Test.YtgganfobejnfaaaGreatDoorTie
set_option linter.all false
namespace Go.Proofs.YtgganfobejnfaaaGreatDoor.W
open Go Go.RowKit Go.Proofs Go.Proofs.YtgganfobejnfaaaGreatDoor.VL Go.Proofs.YtgganfobejnfaaaGreatDoor.M
attribute [local congr] optK_congr guardK_congr condK_congr runT_congr runD_congr wpI_congr CallV_congr LoopI_congr pureK_congr effK_congr calK_congr stepV_congr doV_congr exN_congr exB_congr retF_congr retQ_congr gK_congr condW_congr ldK_congr stoK_congr
attribute [local go_sem] argL_cons argL_nil argH_nil argH_cons chH_getH wpI_seq wpI_reg wpI_drw wpI_ret cond_k condW_t condW_f wpI_skip wpI_block wpI_exit wpI_loop exN_n exN_r exN_e exB_n exB_r exB_h exB_m runT_k kT_e runT_nil runD_k kD_e runD_nil step_u step_k gK_t gK_f do_mv do_bino bo_add bo_sub bo_mul bo_subu bo_quo bo_rem bo_xor bo_eql bo_neq bo_lss bo_leq bo_gtr bo_geq bo_cat bo_eqs bo_nes do_pick do_call do_cal calK_f do_box do_alloc do_ldk ldK_s do_stok stoK_s do_fad do_nilc do_not do_neg do_len do_lens do_ext do_eqs do_beq do_isn do_cvi do_sls do_idx do_mn do_mx do_build do_mkf do_s2b do_b2s do_slv do_iad do_bsl do_mks do_app ev_t ev_c app_some app_none
attribute [local go_sem] List.nil_append List.cons_append List.append_nil getL_hit getL_miss getH_nil getH_hit getH_miss nm_eq ne_eq Nat.reduceEqDiff not_false_eq_true Nat.reduceAdd Nat.add_zero Nat.zero_add if_true if_false ite_true ite_false pureK_s effK_s optK_s gdV_t gdV_f gdV_s pick_b ge_iff_le gt_iff_lt cond_true cond_false fresh_k cells_agg cells_int cells_bool cells_str cells_own cells_sl cells_nils ld_pv ld_pa ld_ip ldVar_t ldVar_f ldArr_t ldArr_f ldRow_t ldRow_f ldA_s ld1_s fad_pv fad_pa fad_ip nilc_pv nilc_pa nilc_ip not_b neg_i cvi_i ext_t retF_n retF_r
attribute [local go_sem] resV_k rvs_nil rvs_t rvs_c fstO_s consO_s resK_s resL_1 resL_2 resL_3 resL_4  Option.some.injEq List.map_cons List.map_nil List.all_cons List.all_nil Bool.and_true Bool.and_self Bool.not_true Bool.not_false Option.map_some Option.map_none sls_s slsG_s loV_n loV_i hiV_n hiV_i idx_s mn_i mx_i s2b_s b2s_s bytO_s bytes_nil bytes_cons conB_s slv_sl slv_own slv_nils slvG_s slvN_s slvO_s iad_sl iadG_map take_map drop_map List.length_map iad_own iad_view iadO_a iadW_a mks_i rowO_nils rowO_sl rowO_own rowA_a eq_self appG_nils appG_own appO_a guardP_T mapA_s bld_nil mkf_nil bldF_e fill_nil fill_cons mkf_e lens_s len_nils len_sl len_own len_view isn_nile isn_erre List.getElem?_cons_zero List.getElem?_cons_succ List.length_cons List.length_nil decide_true decide_false Int.toNat_natCast Int.cast_ofNat_Int Int.reduceLT Int.reduceLE Int.reduceEq Int.reduceAdd Int.reduceSub Int.reduceMul Int.reduceNeg Int.reduceToNat List.getD_cons_zero List.getD_cons_succ not_true_eq_false not_false_eq_true Bool.false_eq_true Bool.true_eq_false reduceCtorEq
attribute [local go_sem] E.row Pc.row Pair.row Part.row Strm.row Flw.row Pk.row Door.row Conv.row World.row Ev.row rdV E.eta Pc.eta Pair.eta Part.eta Strm.eta Pk.eta Flw.eta Conv.eta Door.eta World.eta Ev.eta
attribute [local go_sem] sub_ok st_pv st_pa stVar_v stArr_a Nat.le_refl List.drop_zero List.drop_succ_cons List.take_succ_cons List.take_zero setR Nat.reduceLeDiff
attribute [local go_sem] wk_bot wk2_bot wk1_bot wk_undef wk_tup_e wk2_agg_e wk_agg_e wk1_fn_e wk2_fn_e wk_fn_e wkl_nil wkl_cons wkh_var_e wkh_arr_e wkh_fresh_e wkh_dead_v wkh_dead_a wkh_dead_d wk0_undef wk0_int wk0_bool wk0_str wk0_nils wk0_nils_sl wk0_nilp wk0_nile wk0_erre wk0_sl wk0_iptr wk0_own wk0_view wk0_pv wk0_pa fzA_a fzW_a fzP_v wk0_own_sl wk0_view_sl wk0_pv_iptr WkS_nil WkS_cons WkN_nil WkN_cons nonB_nil nonB_cons getN_nil getN_hit getN_miss pinOk_0 pinOk_s and_true true_and and_self
attribute [local go_sem] bot_int one_int unt_int clo_int bot_bool one_bool unt_bool clo_bool bot_str one_str unt_str clo_str bot_nils one_nils unt_nils clo_nils bot_nilp one_nilp unt_nilp clo_nilp bot_nile one_nile unt_nile clo_nile bot_erre one_erre unt_erre clo_erre bot_raw one_raw unt_raw clo_raw bot_sl one_sl unt_sl clo_sl bot_own one_own unt_own clo_own bot_view one_view unt_view clo_view bot_pv one_pv unt_pv clo_pv bot_pa one_pa unt_pa clo_pa bot_iptr one_iptr unt_iptr clo_iptr unt_agg unt_fn one_fn
attribute [local go_sem] rn_tup rn_agg rn2_agg rn_fn rn2_fn rnfn1 rn_bot rn2_bot rn1_bot rn0_int rn0_bool rn0_str rn0_nils rn0_nilp rn0_nile rn0_erre rn0_sl rn0_iptr rn0_own rn0_view rn0_pv rn0_pa hrn_var hrn_arr hrn_dead outU_nil outU_cons deads_nil deads_cons bk_ge bk_lt nsF_0 nsF_s chH_0 chH_s chH_n newN_e andB_s eqR_nil eqR_i eqR_b eqR_s mapX_f mapX_t eqs_a beq_f beq_t live_arr live_var nsl_nil nsl_cons Nat.reduceMul Nat.reduceLT Nat.zero_le Nat.not_lt_zero
attribute [local go_sem] mV lD lA fD bN eX oP nP sR i0 s0
def ic14:IC:=sR [oP 2 (.mv (.c (.bool false)))] (.seq (sR [mV 16 0,oP 17 (.len (.t 16)),oP 18 (.bin .gtr (.t 17) (.c (.int .i64 1048576)))] (.cond (.t 18) (sR [oP 2 (.mv (.c (.bool true)))] .ret) .skip)) (sR [mV 20 0,oP 21 (.call 15 [.t 20]),mV 19 21,eX 22 19 0,eX 23 19 1,mV 3 22,mV 4 23] (sR [mV 25 3,mV 26 4,oP 27 (.call 16 [.t 25,.t 26]),mV 24 27,eX 28 24 0,eX 29 24 1,oP 5 (.alloc 33 [.nils,.nils,.nils,.nils]),nP (.sto 4 (.t 5) (.t 28)),mV 6 29] (sR [mV 31 3,mV 32 4,oP 33 (.call 17 [.t 31,.t 32]),mV 30 33,eX 34 30 0,eX 35 30 1,oP 7 (.alloc 33 [.nils,.nils,.nils,.nils]),nP (.sto 4 (.t 7) (.t 34)),mV 8 35] (.seq (sR [mV 36 6,mV 37 8,oP 38 (.beq true (.t 36) (.t 37)),mV 39 38,⟨some 40,some (39,false),.ld 4 true (.t 5)⟩,⟨some 41,some (39,false),.ld 4 true (.t 7)⟩,⟨some 42,some (39,false),.call 18 [.t 40,.t 41]⟩,⟨some 43,some (39,false),.un .not (.t 42)⟩,oP 44 (.pick (.t 39) (.c (.bool true)) (.t 43)),mV 45 44,⟨some 46,some (45,false),.mv (.t 6)⟩,⟨some 47,some (45,false),.un .not (.t 46)⟩,oP 48 (.pick (.t 45) (.c (.bool true)) (.t 47))] (.cond (.t 48) (sR [mV 49 6,mV 50 8,oP 51 (.beq false (.t 49) (.t 50)),mV 52 51,⟨some 53,some (52,true),.ld 4 true (.t 5)⟩,⟨some 54,some (52,true),.ld 4 true (.t 7)⟩,⟨some 55,some (52,true),.call 18 [.t 53,.t 54]⟩,oP 56 (.pick (.t 52) (.t 55) (.c (.bool false))),mV 2 56] .ret) .skip)) (sR [lA 57 4 5,oP 9 (.alloc 33 [.nils,.nils,.nils,.nils]),nP (.sto 4 (.t 9) (.t 57))] (.seq (sR [fD 58 3 5,lD 59 1 58,oP 60 (.len (.t 59)),mV 10 60] (.block 0 (.loop (.seq (sR [mV 61 10,oP 62 (.bin .gtr (.t 61) (.c i0))] (.cond (.t 62) .skip (.exit 0))) (.seq (.block 1 (.reg [lA 65 4 9,oP 66 (.build [i0,i0,i0,i0,i0,i0,i0,i0,i0,i0,s0] [(0,(1,.c (.int .i64 4)))]),oP 67 (.call 24 [.t 65,.t 66]),nP (.sto 4 (.t 9) (.t 67))])) (.reg [mV 63 10,oP 64 (.bin .sub (.t 63) (.c (.int .i64 1))),mV 10 64])))))) (sR [lA 68 4 5,oP 69 (.call 31 [.t 68,.c (.int .i64 6)]),oP 11 (.alloc 33 [.nils,.nils,.nils,.nils]),nP (.sto 4 (.t 11) (.t 69))] (sR [lA 70 4 9,oP 71 (.call 31 [.t 70,.c (.int .i64 6)]),oP 12 (.alloc 33 [.nils,.nils,.nils,.nils]),nP (.sto 4 (.t 12) (.t 71))] (.seq (sR [fD 72 3 9,lD 73 1 72,oP 74 (.len (.t 73)),oP 75 (.bin .gtr (.t 74) (.c i0)),mV 76 75,⟨some 77,some (76,false),.ld 4 true (.t 11)⟩,⟨some 78,some (76,false),.call 32 [.t 77]⟩,⟨some 79,some (76,false),.un .not (.t 78)⟩,oP 80 (.pick (.t 76) (.c (.bool true)) (.t 79)),mV 81 80,⟨some 82,some (81,false),.ld 4 true (.t 12)⟩,⟨some 83,some (81,false),.call 32 [.t 82]⟩,⟨some 84,some (81,false),.un .not (.t 83)⟩,oP 85 (.pick (.t 81) (.c (.bool true)) (.t 84))] (.cond (.t 85) (sR [fD 86 3 9,lD 87 1 86,oP 88 (.len (.t 87)),oP 89 (.bin .eql (.t 88) (.c i0)),mV 2 89] .ret) .skip)) (.seq (sR [oP 13 (.mv (.c i0))] (.block 2 (.loop (.seq (sR [mV 90 13,fD 91 0 11,lD 92 1 91,oP 93 (.len (.t 92)),bN 94 .lss 90 93] (.cond (.t 94) .skip (.exit 2))) (.seq (.block 3 (sR [fD 97 0 11,lD 98 1 97,mV 99 13,oP 100 (.iad 10 (.t 98) (.t 99)),lA 101 10 100,oP 14 (.alloc 56 [i0,i0,i0,i0,s0,s0,i0,i0,s0,s0]),nP (.sto 10 (.t 14) (.t 101))] (sR [fD 102 0 12,lD 103 1 102,mV 104 13,oP 105 (.iad 10 (.t 103) (.t 104)),lA 106 10 105,oP 15 (.alloc 56 [i0,i0,i0,i0,s0,s0,i0,i0,s0,s0]),nP (.sto 10 (.t 15) (.t 106))] (sR [fD 107 6 14,lD 108 1 107,fD 109 6 15,lD 110 1 109,bN 111 .neq 108 110,mV 112 111,⟨some 113,some (112,false),.fad 7 (.t 14)⟩,⟨some 114,some (112,false),.ld 1 false (.t 113)⟩,⟨some 115,some (112,false),.fad 7 (.t 15)⟩,⟨some 116,some (112,false),.ld 1 false (.t 115)⟩,⟨some 117,some (112,false),.bin .neq (.t 114) (.t 116)⟩,oP 118 (.pick (.t 112) (.c (.bool true)) (.t 117)),mV 119 118,⟨some 120,some (119,false),.fad 8 (.t 14)⟩,⟨some 121,some (119,false),.ld 1 false (.t 120)⟩,⟨some 122,some (119,false),.lens (.t 121)⟩,⟨some 123,some (119,false),.fad 8 (.t 15)⟩,⟨some 124,some (119,false),.ld 1 false (.t 123)⟩,⟨some 125,some (119,false),.lens (.t 124)⟩,⟨some 126,some (119,false),.bin .neq (.t 122) (.t 125)⟩,⟨some 127,some (119,false),.mv (.t 126)⟩,⟨some 128,some (127,true),.fad 1 (.t 11)⟩,⟨some 129,some (127,true),.fad 0 (.t 128)⟩,⟨some 130,some (127,true),.ld 1 false (.t 129)⟩,⟨some 131,some (127,true),.fad 1 (.t 12)⟩,⟨some 132,some (127,true),.fad 0 (.t 131)⟩,⟨some 133,some (127,true),.ld 1 false (.t 132)⟩,⟨some 134,some (127,true),.call 33 [.t 130,.t 133]⟩,⟨some 135,some (119,false),.pick (.t 127) (.t 134) (.c (.bool false))⟩,oP 136 (.pick (.t 119) (.c (.bool true)) (.t 135))] (.cond (.t 136) (sR [oP 2 (.mv (.c (.bool false)))] .ret) .skip))))) (.reg [mV 95 13,oP 96 (.bin .add (.t 95) (.c (.int .i64 1))),mV 13 96])))))) (sR [lA 137 4 11,oP 138 (.call 28 [.t 137]),mV 139 138,⟨some 140,some (139,true),.ld 4 true (.t 12)⟩,⟨some 141,some (139,true),.call 28 [.t 140]⟩,oP 142 (.pick (.t 139) (.t 141) (.c (.bool false))),mV 2 142] .ret))))))))))))
theorem dg14:Dg Tryz.prog 14 Tryz.f14 ic14 [(.t 2)]:=⟨Tryz.func14,by kernel_rfl,by kernel_rfl⟩
theorem c14 (code:B):FnR Tryz.prog G 14 [.sl 1 (code.map byR)] (.bool true):=by
  refine mF dg14 Tryz.ntmps14 ?_
  simp only [ic14,go_sem]
  by_cases hc:(1048576:Int)<code.length
  · simp only [eq_true hc,go_sem]
  simp only [eq_false hc,go_sem]
  refine callO (c15 code (by omega)) [] 21 0 (by simp only [go_sem];first|done|simp) (by simp) (by rintro _ _ ⟨_,_,_,_,_,rfl⟩;simp) (by intro i hi;omega) ?_
  rintro _ _ ⟨cs,es,⟨⟨hc1,hc2⟩,hcB⟩,⟨he1,heB⟩,rfl,rfl⟩
  simp only [go_sem]
  have fi:∀ es':List Ev,es'.length≤es.length→(∀ e∈es',e∈es)→_:=fun es' h1 h2=>c16 cs es' (by omega) (fun c h=>by have:=hcB c h;omega) (by omega) (fun e h=>by have:=heB e (h2 e h);omega)
  have f1:=fi es (Nat.le_refl _) fun e h=>h
  with_reducible repeat' (first|refine br ?_ ?_<;>intro h e<;>(try simp only [e,go_sem])<;>clear e|rw [i64w (by omega)]|refine sd ?_<;>try simp only [go_sem]|(first|refine cr (f1 ..) ?_)<;>try simp only [go_sem]|fail)
  refine callO (c17 cs es (by omega) (fun c h=>by have:=hcB c h;omega) (by omega) (fun e h=>by have:=heB e h;omega)) [] 33 4 (by simp only [go_sem];first|done|simp) (by simp) (by rintro _ _ (⟨w,_,rfl,rfl⟩|⟨_,rfl,rfl⟩)<;>simp) (by intro i hi;rcases (show i=0∨i=1∨i=2∨i=3 by omega) with rfl|rfl|rfl|rfl<;>simp only [go_sem]) ?_
  rintro _ _ (⟨w,hw,rfl,rfl⟩|⟨hw,rfl,rfl⟩)
  · rw [hw]
    have hwi:=play_wi hw
    have hcl:=hwi.cl
    have hnl:=hwi.nl
    simp only [go_sem,Option.isSome_some,Option.getD_some,btt]
    with_reducible repeat' (first|refine br ?_ ?_<;>intro h e<;>(try simp only [e,go_sem,btt])<;>clear e|rw [i64w (by omega)]|refine sd ?_<;>try simp only [go_sem,btt]|fail)
    refine callF (c18 w (wi_wb hwi)) [103300,103301,103302,103303] false (by simp only [go_sem];first|done|simp [E.row,Pc.row,Pair.row,Part.row,Flw.row,Pk.row,Conv.row]) (by simp only [List.mem_cons,List.not_mem_nil,or_false];rintro c (rfl|rfl|rfl|rfl)<;>simp only [go_sem]) rfl (.inr rfl) ?_
    simp only [go_sem]
    have sw:=play_calm hw
    have sl:=play_lens hw
    have s6:=sw.rounds calm_step 6
    have x6:=sw.clear.rounds calm_step 6
    with_reducible repeat' (first|refine br ?_ ?_<;>intro h e<;>(try simp only [e,go_sem])<;>clear e|rw [i64w (by omega)]|refine sd ?_<;>try simp only [go_sem]|fail)
    refine loopN (fun a:Nat × M.World=>⟨getL [(5,.pv 1005 0),(9,.pv 1009 0),(10,.int .i64 (a.1:Int))],getH [(1005,.var 33 [.sl 10 (w.convs.map Conv.row),.sl 3 (w.door.map.map Pair.row),.sl 8 (w.door.flows.map Flw.row),.sl 7 (w.nets.map Pk.row)]),(1009,.var 33 [.sl 10 (a.2.convs.map Conv.row),.sl 3 (a.2.door.map.map Pair.row),.sl 8 (a.2.door.flows.map Flw.row),.sl 7 (a.2.nets.map Pk.row)])]⟩) (fun a=>a.1) (fun a=>a.1≤10∧SI CK CN a.2∧a.2.nets.length=a.1∧a.2.convs=w.convs∧a.2.door=w.door) (w.nets.length,w) (leQ []) ⟨hnl,sw,rfl,rfl,rfl⟩ ?_
    intro ⟨k,v⟩ ⟨hk,hv,hvn,hvc,hvd⟩
    simp only at hk hv hvn hvc hvd
    simp only [go_sem]
    by_cases h:(0:Int)<k
    · have hne:v.nets≠[]:=fun e=>by rw [e] at hvn;simp at hvn;omega
      have fd:=c24 v ⟨4,0,0,0,.zero⟩ hv.wi (si_ok hv) (by simp [Pk.zero])
      have hs:=lose_one hv hne
      rw [worldDo,if_pos (si_ok hv)] at hs
      rw [hs] at fd
      simp only [Pk.zero,E.zero] at fd
      have hv2:SI CK CN { v with nets:=v.nets.tail }:=by
        have:=hv.erase 0
        rw [show v.nets.eraseIdx 0=v.nets.tail by cases v.nets<;>rfl] at this
        exact this
      simp only [eq_true h,go_sem]
      with_reducible repeat' (first|rw [i64w (by omega)];try simp only [go_sem]|refine br ?_ ?_<;>intro h e<;>(try simp only [e,go_sem])<;>clear e|refine sd ?_<;>try simp only [go_sem]|(first|refine cr (fd ..) ?_)<;>try simp only [go_sem]|fail)
      exact ⟨(k - 1,{ v with nets:=v.nets.tail }),by simp only;omega,⟨by simp only;omega,hv2,by simp;omega,hvc,hvd⟩,(leQ [])⟩
    simp only [eq_false h,go_sem]
    have hv0:v={ w with nets:=[] }:=by
      have:v.nets=[]:=List.eq_nil_of_length_eq_zero (by omega)
      cases v;simp only at *;subst this hvc hvd;rfl
    subst hv0
    have fc:=c631 w hwi (si_ok sw)
    have fd:=c631 { w with nets:=[] } hv.wi (si_ok hv)
    have fp:=c32 (rounds 6 w)
    have fq:=c32 (rounds 6 { w with nets:=[] })
    have ft:=c28 (rounds 6 w) s6
    have fu:=c28 (rounds 6 { w with nets:=[] }) x6
    have hlen:(rounds 6 { w with nets:=[] }).convs.length=(rounds 6 w).convs.length:=by rw [(rounds_ext 6 { w with nets:=[] }).len,(rounds_ext 6 w).len]
    have law:=fun h1 h2 i c d=>law_lost sw sl h1 h2 (i:=i) (c:=c) (d:=d)
    simp only [List.map_nil] at fd
    have hcl6:=s6.wi.cl
    by_cases hm:((rounds 6 w).door.map.length:Int)≤7
    · by_cases hm2:((rounds 6 { w with nets:=[] }).door.map.length:Int)≤7
      · rw [decide_eq_true hm] at fp
        rw [decide_eq_true hm2] at fq
        have law:=law (by omega) (by omega)
        generalize rounds 6 w=a at *
        generalize rounds 6 { w with nets:=[] }=b at *
        with_reducible repeat' (first|refine br ?_ ?_<;>intro h e<;>(try simp only [e,go_sem])<;>clear e|rw [i64w (by omega)]|refine sd ?_<;>try simp only [go_sem]|(first|refine cr (fc ..) ?_|refine cr (fd ..) ?_|refine cr (fp ..) ?_|refine cr (fq ..) ?_)<;>try simp only [go_sem]|fail)
        refine loopN (fun i:Nat=>⟨getL [(11,.pv 1011 0),(12,.pv 1012 0),(13,.int .i64 (i:Int))],getH [(1011,.var 33 [.sl 10 (a.convs.map Conv.row),.sl 3 (a.door.map.map Pair.row),.sl 8 (a.door.flows.map Flw.row),.sl 7 (a.nets.map Pk.row)]),(1012,.var 33 [.sl 10 (b.convs.map Conv.row),.sl 3 (b.door.map.map Pair.row),.sl 8 (b.door.flows.map Flw.row),.sl 7 (b.nets.map Pk.row)])]⟩) (fun i=>a.convs.length - i) (fun i=>i≤a.convs.length) 0 (leQ []) (Nat.zero_le _) ?_
        intro i hi
        simp only [go_sem]
        by_cases h:(i:Int)<a.convs.length
        · have hil:i<a.convs.length:=by omega
          have hil2:i<b.convs.length:=by omega
          have hg:a.convs.getD i default=a.convs[i]:=by simp [List.getD,hil]
          have hg2:b.convs.getD i default=b.convs[i]:=by simp [List.getD,hil2]
          obtain ⟨e1,e2,e3⟩:=law i _ _ (List.getElem?_eq_getElem hil) (List.getElem?_eq_getElem hil2)
          simp only [eq_true h,go_sem]
          generalize a.convs[i]=c at *
          generalize b.convs[i]=d at *
          with_reducible repeat' (first|rw [i64w (by omega)];try simp only [go_sem,hg,hg2,e1,e2,e3]|refine br ?_ ?_<;>intro h e<;>(try simp only [e,go_sem,hg,hg2,e1,e2,e3])<;>clear e|refine sd ?_<;>try simp only [go_sem,hg,hg2,e1,e2,e3]|fail)
          all_goals first
            | exact ⟨i+1,by omega,by omega,(leQ [])⟩
            | trace_state
        · simp only [eq_false h,go_sem]
          with_reducible repeat' (first|refine br ?_ ?_<;>intro h e<;>(try simp only [e,go_sem])<;>clear e|rw [i64w (by omega)]|refine sd ?_<;>try simp only [go_sem]|(first|refine cr (ft ..) ?_|refine cr (fu ..) ?_)<;>try simp only [go_sem]|fail)
      · rw [decide_eq_false hm2] at fq
        rw [decide_eq_true hm] at fp
        generalize rounds 6 w=a at *
        generalize rounds 6 { w with nets:=[] }=b at *
        with_reducible repeat' (first|refine br ?_ ?_<;>intro h e<;>(try simp only [e,go_sem])<;>clear e|rw [i64w (by omega)]|refine sd ?_<;>try simp only [go_sem]|(first|refine cr (fc ..) ?_|refine cr (fd ..) ?_|refine cr (fp ..) ?_|refine cr (fq ..) ?_)<;>try simp only [go_sem]|fail)
    · rw [decide_eq_false hm] at fp
      generalize rounds 6 w=a at *
      generalize rounds 6 { w with nets:=[] }=b at *
      with_reducible repeat' (first|refine br ?_ ?_<;>intro h e<;>(try simp only [e,go_sem])<;>clear e|rw [i64w (by omega)]|refine sd ?_<;>try simp only [go_sem]|(first|refine cr (fc ..) ?_|refine cr (fd ..) ?_|refine cr (fp ..) ?_)<;>try simp only [go_sem]|fail)
  · rw [hw]
    simp only [go_sem,Option.isSome_none,Option.getD_none,zero_e,List.map_nil,bff]
    with_reducible repeat' (first|refine br ?_ ?_<;>intro h e<;>(try simp only [e,go_sem,bff])<;>clear e|rw [i64w (by omega)]|refine sd ?_<;>try simp only [go_sem,bff]|fail)
    refine callF (c18 .zero zeroWB) [] true (by simp only [go_sem,zero_e,List.map_nil];first|done|simp) (by simp) rfl (.inl rfl) ?_
    simp only [go_sem,bff]
    with_reducible repeat' (first|refine br ?_ ?_<;>intro h e<;>(try simp only [e,go_sem,bff])<;>clear e|rw [i64w (by omega)]|refine sd ?_<;>try simp only [go_sem,bff]|fail)
    all_goals first
      | (refine callF (c18 .zero zeroWB) [] true (by simp only [go_sem,zero_e,List.map_nil];first|done|simp) (by simp) rfl (.inl rfl) ?_
         simp only [go_sem,bff];done)
      | skip
end Go.Proofs.YtgganfobejnfaaaGreatDoor.W
namespace Go.Proofs.YtgganfobejnfaaaGreatDoor.fnWorldLost
open Go Go.ChangeShapes Go.WideShapes Go.ChangeAt Go.RowKit Go.Proofs.YtgganfobejnfaaaGreatDoor.W
theorem walk (v0:Value) (W:World) (hs:W.ShapedOpen Tryz.prog) (hL:laidMetH Tryz.prog Rows.fnWorldLostRow.laid W) (hv0:∃ code:M.B,VL.Den W noO noρ noH (.sl 1 (code.map M.byR)) v0) :
    Calls Tryz.prog 14 #[v0] W fun e W'=>e=.returned (.bool true)∧Below W.heap.size W W':=by
  obtain ⟨code,hdv0⟩:=hv0
  have:=Go.Proofs.YtgganfobejnfaaaGreatDoor.W.FnR.calls (c14 code) (us:=[v0]) (gOk rfl hL hs) ⟨rfl,fun j a b ha hb=>by
    match j,ha,hb with
    | 0,ha,hb=>cases ha;cases hb;exact hdv0
    | j+1,ha,hb=>simp at ha⟩
  exact this
set_option maxRecDepth 100000 in
theorem contract (H:Type) (enc:TypeId × Value→H) (W:World) (base:Nat) (args:Array Value) (ds gs:List (DataW H)) (before:List MemPlace)
    (hval:∀ (j:Nat) t v,Tryz.f14.params[j]?=some t→args[j]?=some v→Value.okWide Tryz.prog W .any base t v)
    (hW:DataW.Whole enc Tryz.prog Tryz.f14.params.toList Rows.fnWorldLostSpec.vars false W args.toList ds gs before) (hL:laidMetH Tryz.prog Rows.fnWorldLostRow.laid W) (hs:W.ShapedOpen Tryz.prog) :
    Calls Tryz.prog 14 args W fun e W'=>∃ v,e=.returned v∧Rows.fnWorldLostSpec.post enc Tryz.prog Tryz.f14 false true false false W args v W':=by
  have hW':=hW
  obtain ⟨p,q,hA0,hV,rfl,hfz,hnd⟩:=hW
  have hA:DataW.TrodAll enc Tryz.prog W 0 (fun _=>true) true Tryz.f14.params.toList args.toList ds p:=hA0
  rw [Tryz.params14] at hA hval
  obtain ⟨v0,r0s,d0,d0s,p0,q0,hargs0,rfl,rfl,h0,r0⟩:=trodAll_cons hA
  obtain ⟨e1,e2,e3⟩:=trodAll_nil r0
  subst e1 e2 e3
  obtain rfl:args=#[v0]:=by cases args;simp_all
  obtain ⟨rfl,rfl⟩:=trodVars_none hV
  obtain ⟨a0,len0,cap0,hv0⟩:=okWide_slice Tryz.underlying22 (hval 0 22 v0 rfl rfl)
  have k0:=h0
  have lt0:∀ x∈p0,x.block<W.heap.size:=by obtain ⟨m,hm⟩:=k0;exact DataW.trod_lt m _ _ _ hm
  have hc0:=open_code h0 ⟨a0,len0,cap0,hv0⟩
  clear hA0
  refine (walk v0 W hs hL hc0).mono fun e W' ⟨he,bel⟩=>?_
  subst he
  exact ⟨_,rfl,_,_,_,[],_,[],hW',trodAll_mk1 (shut_bool Tryz.underlying4 _),(trodAll_cons_mk (Below.trod laidOut (by kernel_rfl) (of_decide_eq_true (by kernel_rfl)) k0 bel lt0) trodAll_mk0),rfl,bel.frame _,fun h=>by cases h⟩
theorem inP:(Rows.fnWorldLostRow.inPlace == Tryz.prog.inPlace 14)=true:=by kernel_rfl
theorem unf:(Rows.fnWorldLostRow.unfollowed == Tryz.prog.unfollowed 14)=true:=by kernel_rfl
theorem rcs:(Rows.fnWorldLostRow.recurses == Tryz.prog.recurses 14)=true:=by kernel_rfl
theorem nam:(Rows.fnWorldLostRow.named == Tryz.prog.varsNamed 14)=true:=by kernel_rfl
theorem lif:(Rows.fnWorldLostRow.lifted == Tryz.prog.liftsFinal)=true:=lifF
theorem pke:(Rows.fnWorldLostRow.plainKeys == Tryz.prog.plainKeys)=true:=pkeF
theorem mak:(Tryz.prog.make == some Rows.fnWorldLostRow.make)=true:=makF
theorem closed0:joinedFacts Tryz.prog 14 Tryz.f14 Rows.fnWorldLostSpec Rows.fnWorldLostRow=true:=by
  unfold joinedFacts
  rw [laidOut,mapF,inP,unf,rcs,nam,pke,stoF,mayF,lif,mak]
  kernel_rfl
theorem closed:joinedFacts Tryz.pinned.checked.prog 14 Tryz.f14 (OpenSpec.ofChange Rows.fnWorldLostSpec).bare Rows.fnWorldLostRow=true :=
  (show joinedFacts Tryz.pinned.checked.prog 14 Tryz.f14 (OpenSpec.ofChange Rows.fnWorldLostSpec).bare Rows.fnWorldLostRow=joinedFacts Tryz.prog 14 Tryz.f14 Rows.fnWorldLostSpec Rows.fnWorldLostRow by kernel_rfl).trans closed0
theorem door_met (os:Os) (args:Array Value):laidMetH Tryz.prog Rows.fnWorldLostRow.laid ((World.doorLaid Tryz.prog 400 os).forCall (fun _ _=>0) ⟨#[],args,[]⟩).memory :=
  laidMetH_of_parts3 (fuel:=8) (laidMet_of_run' 8 (by kernel_rfl) (by kernel_rfl)) (by kernel_rfl) (by kernel_rfl)
theorem reads (os:Os) {H:Type} (enc:TypeId × Value→H):∃ places,DataW.whole enc Tryz.prog ((World.doorLaid Tryz.prog 400 os).forCall (fun _ _=>0) ⟨#[],#[.slice none 0 0],[]⟩).memory Tryz.f14.params.toList Rows.fnWorldLostSpec.vars false #[Value.slice none 0 0].toList 8=some ([.nil],[],places) :=
  ⟨[],by kernel_rfl⟩
set_option maxRecDepth 100000 in
theorem lifted (os:Os) (started:os.Started) (H:Type) (enc:TypeId × Value→H) (F:Stop.Interp) :
    ReturnsInHanded {} Tryz.checked os 14 .any ((OpenSpec.ofChange Rows.fnWorldLostSpec).preRow enc Tryz.prog Tryz.f14 Rows.fnWorldLostRow.domain false Rows.fnWorldLostRow.laid) (((OpenSpec.ofChange Rows.fnWorldLostSpec).at F).post enc Tryz.prog Tryz.f14 false true false false):=by
  obtain ⟨places,hx⟩:=reads os enc
  refine returnsInHanded_of_row (C:=Tryz.checked) (s:=OpenSpec.ofChange Rows.fnWorldLostSpec) own started (by kernel_rfl) Tryz.func14
    (witness_row_atRef (enc:=enc) (C:=Tryz.checked) false (World.doorLaid Tryz.prog 400 os) #[.slice none 0 0] rfl (by kernel_rfl) (by kernel_rfl) (by kernel_rfl)
      (OpenSpec.preRow_of_cond 8 hx (by kernel_rfl) (fun k hk=>by cases hk) (by kernel_rfl) (door_met os _))) ?_
  intro W base args ds gs before hval hW _ _ _ hL hs _
  exact contract H enc W base args ds gs before hval hW hL hs
theorem said:Rows.FnWorldLostSaid :=
  OpenClaim.holds_of_cond 14 Tryz.f14 rfl rfl rfl rfl rfl rfl rfl ⟨rfl,rfl,rfl,rfl,rfl⟩ rfl rfl rfl rfl rfl (by kernel_rfl) Tryz.func14 closed
    (of_decide_eq_true (by kernel_rfl)) (by unfold Func.isWrapper;first|(rw [if_pos (by decide +kernel)];kernel_rfl)|(rw [if_neg (by decide +kernel)];exact ⟨rfl,rfl⟩))
    (fun os started H enc _ F=>by rw [OpenClaim.pre_eq_preRow];exact lifted os started H enc F)
theorem plain (f:FuncId) (fn:Func) (hf:Tryz.pinned.checked.prog.funcNamed "loop.example/ostiary/laws.FnWorldLost"=some f) (hfn:Tryz.pinned.checked.prog.funcs[f]?=some fn) :
    true=Tryz.pinned.checked.prog.looks []∧∀ (j:Nat) t,fn.params[j]?=some t→Tryz.pinned.checked.prog.wantsStandIn t=false:=by
  obtain rfl:f=14:=Option.some.inj ((show Tryz.prog.funcNamed "loop.example/ostiary/laws.FnWorldLost"=some 14 by kernel_rfl).symm.trans hf) |>.symm
  obtain rfl:fn=Tryz.f14:=(Option.some.inj (Tryz.func14.symm.trans hfn)).symm
  refine ⟨by kernel_rfl,fun j t ht=>?_⟩
  rw [Tryz.params14] at ht
  obtain rfl:t=22:=by simpa using Array.mem_of_getElem? ht
  exact (show Tryz.prog.wantsStandIn 22=false by kernel_rfl)
theorem card:Rows.FnWorldLostCardSaid :=
  Claim7.holds_tied_plain_at .later [] _ _ _ _ said (fun _ h=>by cases h) (by kernel_rfl) (fun _ h=>by cases h) fnWorldLost_row_tie rfl ⟨rfl,rfl⟩ (by kernel_rfl) rfl plain (by kernel_rfl)
end Go.Proofs.YtgganfobejnfaaaGreatDoor.fnWorldLost
