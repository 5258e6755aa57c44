/- FnWorldNets: what is under way is between who may, in a drawn play. Conditions: those of the row alone. -/
import Derived.Test.YtgganfobejnfaaaGreatDoorX07
import Derived.Test.YtgganfobejnfaaaGreatDoorX03
import Derived.Test.YtgganfobejnfaaaGreatDoorX04
import Derived.Test.YtgganfobejnfaaaGreatDoorCards
import Derived.Test.YtgganfobejnfaaaGreatDoorTie
set_option linter.all false
namespace Go.Proofs.YtgganfobejnfaaaGreatDoor.W
open Go Go.RowKit Go.Proofs Go.Proofs.YtgganfobejnfaaaGreatDoor.VL Go.Proofs.YtgganfobejnfaaaGreatDoor.M
attribute [local congr] optK_congr guardK_congr condK_congr runT_congr runD_congr wpI_congr CallV_congr LoopI_congr pureK_congr effK_congr calK_congr stepV_congr doV_congr exN_congr exB_congr retF_congr retQ_congr gK_congr condW_congr ldK_congr stoK_congr
attribute [local go_sem] argL_cons argL_nil argH_nil argH_cons chH_getH wpI_seq wpI_reg wpI_drw wpI_ret cond_k condW_t condW_f wpI_skip wpI_block wpI_exit wpI_loop exN_n exN_r exN_e exB_n exB_r exB_h exB_m runT_k kT_e runT_nil runD_k kD_e runD_nil step_u step_k gK_t gK_f do_mv do_bino bo_add bo_sub bo_mul bo_subu bo_quo bo_rem bo_xor bo_eql bo_neq bo_lss bo_leq bo_gtr bo_geq bo_cat bo_eqs bo_nes do_pick do_call do_cal calK_f do_box do_alloc do_ldk ldK_s do_stok stoK_s do_fad do_nilc do_not do_neg do_len do_lens do_ext do_eqs do_beq do_isn do_cvi do_sls do_idx do_mn do_mx do_build do_mkf do_s2b do_b2s do_slv do_iad do_bsl do_mks do_app ev_t ev_c app_some app_none
attribute [local go_sem] List.nil_append List.cons_append List.append_nil getL_hit getL_miss getH_nil getH_hit getH_miss nm_eq ne_eq Nat.reduceEqDiff not_false_eq_true Nat.reduceAdd Nat.add_zero Nat.zero_add if_true if_false ite_true ite_false pureK_s effK_s optK_s gdV_t gdV_f gdV_s pick_b ge_iff_le gt_iff_lt cond_true cond_false fresh_k cells_agg cells_int cells_bool cells_str cells_own cells_sl cells_nils ld_pv ld_pa ld_ip ldVar_t ldVar_f ldArr_t ldArr_f ldRow_t ldRow_f ldA_s ld1_s fad_pv fad_pa fad_ip nilc_pv nilc_pa nilc_ip not_b neg_i cvi_i ext_t retF_n retF_r
attribute [local go_sem] resV_k rvs_nil rvs_t rvs_c fstO_s consO_s resK_s resL_1 resL_2 resL_3 resL_4  Option.some.injEq List.map_cons List.map_nil List.all_cons List.all_nil Bool.and_true Bool.and_self Bool.not_true Bool.not_false Option.map_some Option.map_none sls_s slsG_s loV_n loV_i hiV_n hiV_i idx_s mn_i mx_i s2b_s b2s_s bytO_s bytes_nil bytes_cons conB_s slv_sl slv_own slv_nils slvG_s slvN_s slvO_s iad_sl iadG_map take_map drop_map List.length_map iad_own iad_view iadO_a iadW_a mks_i rowO_nils rowO_sl rowO_own rowA_a eq_self appG_nils appG_own appO_a guardP_T mapA_s bld_nil mkf_nil bldF_e fill_nil fill_cons mkf_e lens_s len_nils len_sl len_own len_view isn_nile isn_erre List.getElem?_cons_zero List.getElem?_cons_succ List.length_cons List.length_nil decide_true decide_false Int.toNat_natCast Int.cast_ofNat_Int Int.reduceLT Int.reduceLE Int.reduceEq Int.reduceAdd Int.reduceSub Int.reduceMul Int.reduceNeg Int.reduceToNat List.getD_cons_zero List.getD_cons_succ not_true_eq_false not_false_eq_true Bool.false_eq_true Bool.true_eq_false reduceCtorEq
attribute [local go_sem] E.row Pc.row Pair.row Part.row Strm.row Flw.row Pk.row Door.row Conv.row World.row Ev.row rdV E.eta Pc.eta Pair.eta Part.eta Strm.eta Pk.eta Flw.eta Conv.eta Door.eta World.eta Ev.eta
attribute [local go_sem] sub_ok st_pv st_pa stVar_v stArr_a Nat.le_refl List.drop_zero List.drop_succ_cons List.take_succ_cons List.take_zero setR Nat.reduceLeDiff
attribute [local go_sem] wk_bot wk2_bot wk1_bot wk_undef wk_tup_e wk2_agg_e wk_agg_e wk1_fn_e wk2_fn_e wk_fn_e wkl_nil wkl_cons wkh_var_e wkh_arr_e wkh_fresh_e wkh_dead_v wkh_dead_a wkh_dead_d wk0_undef wk0_int wk0_bool wk0_str wk0_nils wk0_nils_sl wk0_nilp wk0_nile wk0_erre wk0_sl wk0_iptr wk0_own wk0_view wk0_pv wk0_pa fzA_a fzW_a fzP_v wk0_own_sl wk0_view_sl wk0_pv_iptr WkS_nil WkS_cons WkN_nil WkN_cons nonB_nil nonB_cons getN_nil getN_hit getN_miss pinOk_0 pinOk_s and_true true_and and_self
attribute [local go_sem] bot_int one_int unt_int clo_int bot_bool one_bool unt_bool clo_bool bot_str one_str unt_str clo_str bot_nils one_nils unt_nils clo_nils bot_nilp one_nilp unt_nilp clo_nilp bot_nile one_nile unt_nile clo_nile bot_erre one_erre unt_erre clo_erre bot_raw one_raw unt_raw clo_raw bot_sl one_sl unt_sl clo_sl bot_own one_own unt_own clo_own bot_view one_view unt_view clo_view bot_pv one_pv unt_pv clo_pv bot_pa one_pa unt_pa clo_pa bot_iptr one_iptr unt_iptr clo_iptr unt_agg unt_fn one_fn
attribute [local go_sem] rn_tup rn_agg rn2_agg rn_fn rn2_fn rnfn1 rn_bot rn2_bot rn1_bot rn0_int rn0_bool rn0_str rn0_nils rn0_nilp rn0_nile rn0_erre rn0_sl rn0_iptr rn0_own rn0_view rn0_pv rn0_pa hrn_var hrn_arr hrn_dead outU_nil outU_cons deads_nil deads_cons bk_ge bk_lt nsF_0 nsF_s chH_0 chH_s chH_n newN_e andB_s eqR_nil eqR_i eqR_b eqR_s mapX_f mapX_t eqs_a beq_f beq_t live_arr live_var nsl_nil nsl_cons Nat.reduceMul Nat.reduceLT Nat.zero_le Nat.not_lt_zero
attribute [local go_sem] mV lD lA fD bN eX oP nP sR i0 s0
theorem in_no {e:E} (h:e.inside=true):e.outside=false∧e.door=false:=⟨by cases h2:e.outside with|false=>rfl|true=>exact (in_out h h2).elim,by cases h2:e.door with|false=>rfl|true=>exact (in_door h h2).elim⟩
theorem out_no3 {e:E} (h:e.outside=true):e.inside=false∧e.door=false:=⟨not_in_out h,by cases h2:e.door with|false=>rfl|true=>exact (out_door h h2).elim⟩
theorem door_no {e:E} (h:e.door=true):e.inside=false∧e.outside=false:=⟨not_in_door h,by cases h2:e.outside with|false=>rfl|true=>exact (out_door h2 h).elim⟩
def ic3:IC:=sR [oP 2 (.mv (.c (.bool false)))] (.seq (sR [mV 13 0,oP 14 (.len (.t 13)),oP 15 (.bin .gtr (.t 14) (.c (.int .i64 1048576)))] (.cond (.t 15) (sR [oP 2 (.mv (.c (.bool true)))] .ret) .skip)) (sR [mV 17 0,oP 18 (.call 15 [.t 17]),mV 16 18,eX 19 16 0,eX 20 16 1,mV 3 19,mV 4 20] (sR [mV 22 3,mV 23 4,oP 24 (.call 16 [.t 22,.t 23]),mV 21 24,eX 25 21 0,eX 26 21 1,oP 5 (.alloc 33 [.nils,.nils,.nils,.nils]),nP (.sto 4 (.t 5) (.t 25)),mV 6 26] (sR [mV 28 3,mV 29 4,oP 30 (.call 17 [.t 28,.t 29]),mV 27 30,eX 31 27 0,eX 32 27 1,oP 7 (.alloc 33 [.nils,.nils,.nils,.nils]),nP (.sto 4 (.t 7) (.t 31)),mV 8 32] (.seq (sR [mV 33 6,mV 34 8,oP 35 (.beq true (.t 33) (.t 34)),mV 36 35,⟨some 37,some (36,false),.ld 4 true (.t 5)⟩,⟨some 38,some (36,false),.ld 4 true (.t 7)⟩,⟨some 39,some (36,false),.call 18 [.t 37,.t 38]⟩,⟨some 40,some (36,false),.un .not (.t 39)⟩,oP 41 (.pick (.t 36) (.c (.bool true)) (.t 40)),mV 42 41,⟨some 43,some (42,false),.mv (.t 6)⟩,⟨some 44,some (42,false),.un .not (.t 43)⟩,oP 45 (.pick (.t 42) (.c (.bool true)) (.t 44))] (.cond (.t 45) (sR [mV 46 6,mV 47 8,oP 48 (.beq false (.t 46) (.t 47)),mV 49 48,⟨some 50,some (49,true),.ld 4 true (.t 5)⟩,⟨some 51,some (49,true),.ld 4 true (.t 7)⟩,⟨some 52,some (49,true),.call 18 [.t 50,.t 51]⟩,oP 53 (.pick (.t 49) (.t 52) (.c (.bool false))),mV 2 53] .ret) .skip)) (.seq (sR [oP 9 (.mv (.c i0))] (.block 0 (.loop (.seq (sR [mV 54 9,fD 55 3 5,lD 56 1 55,oP 57 (.len (.t 56)),bN 58 .lss 54 57] (.cond (.t 58) .skip (.exit 0))) (.seq (.block 1 (sR [fD 61 3 5,lD 62 1 61,mV 63 9,oP 64 (.iad 7 (.t 62) (.t 63)),lA 65 7 64,oP 10 (.alloc 40 [i0,i0,i0,i0,i0,i0,s0]),nP (.sto 7 (.t 10) (.t 65))] (sR [fD 66 1 10,lA 67 2 66,oP 68 (.call 19 [.t 67]),mV 69 68,⟨some 70,some (69,true),.fad 3 (.t 10)⟩,⟨some 71,some (69,true),.ld 2 true (.t 70)⟩,⟨some 72,some (69,true),.call 20 [.t 71]⟩,oP 73 (.pick (.t 69) (.t 72) (.c (.bool false))),mV 74 73,⟨some 75,some (74,false),.fad 1 (.t 10)⟩,⟨some 76,some (74,false),.ld 2 true (.t 75)⟩,⟨some 77,some (74,false),.call 21 [.t 76]⟩,⟨some 78,some (74,false),.mv (.t 77)⟩,⟨some 79,some (78,true),.fad 3 (.t 10)⟩,⟨some 80,some (78,true),.ld 2 true (.t 79)⟩,⟨some 81,some (78,true),.call 20 [.t 80]⟩,⟨some 82,some (74,false),.pick (.t 78) (.t 81) (.c (.bool false))⟩,oP 83 (.pick (.t 74) (.c (.bool true)) (.t 82)),mV 11 83] (sR [fD 84 1 10,lA 85 2 84,oP 86 (.call 20 [.t 85]),mV 87 86,⟨some 88,some (87,true),.fad 3 (.t 10)⟩,⟨some 89,some (87,true),.ld 2 true (.t 88)⟩,⟨some 90,some (87,true),.call 21 [.t 89]⟩,oP 91 (.pick (.t 87) (.t 90) (.c (.bool false))),mV 12 91] (.seq (sR [fD 92 1 10,lA 93 2 92,oP 94 (.call 20 [.t 93]),mV 95 94,⟨some 96,some (95,true),.fad 3 (.t 10)⟩,⟨some 97,some (95,true),.ld 2 true (.t 96)⟩,⟨some 98,some (95,true),.call 19 [.t 97]⟩,oP 99 (.pick (.t 95) (.t 98) (.c (.bool false)))] (.cond (.t 99) (.reg [fD 101 1 5,lA 102 2 101,fD 103 3 10,lA 104 2 103,fD 105 1 10,lA 106 2 105,oP 107 (.call 22 [.t 102,.t 104,.t 106]),mV 100 107,eX 108 100 0,eX 109 100 1,mV 12 109]) .skip)) (sR [lA 110 7 10,oP 111 (.call 23 [.t 110]),oP 112 (.un .not (.t 111)),mV 113 112,⟨some 114,some (113,false),.mv (.t 11)⟩,⟨some 115,some (113,false),.un .not (.t 114)⟩,⟨some 116,some (113,false),.mv (.t 115)⟩,⟨some 117,some (116,true),.mv (.t 12)⟩,⟨some 118,some (116,true),.un .not (.t 117)⟩,⟨some 119,some (113,false),.pick (.t 116) (.t 118) (.c (.bool false))⟩,oP 120 (.pick (.t 113) (.c (.bool true)) (.t 119))] (.cond (.t 120) (sR [oP 2 (.mv (.c (.bool false)))] .ret) .skip))))))) (.reg [mV 59 9,oP 60 (.bin .add (.t 59) (.c (.int .i64 1))),mV 9 60])))))) (sR [fD 121 3 5,lD 122 1 121,oP 123 (.len (.t 122)),oP 124 (.bin .leq (.t 123) (.c (.int .i64 10))),mV 2 124] .ret)))))))
theorem dg3:Dg Tryz.prog 3 Tryz.f3 ic3 [(.t 2)]:=⟨Tryz.func3,by kernel_rfl,by kernel_rfl⟩
theorem c3 (code:B):FnR Tryz.prog G 3 [.sl 1 (code.map byR)] (.bool true):=by
  refine mF dg3 Tryz.ntmps3 ?_
  simp only [ic3,go_sem]
  by_cases hc:(1048576:Int)<code.length
  · simp only [eq_true hc,go_sem]
  simp only [eq_false hc,go_sem]
  refine callO (c15 code (by omega)) [] 18 0 (by simp only [go_sem];first|done|simp) (by simp) (by rintro _ _ ⟨_,_,_,_,_,rfl⟩;simp) (by intro i hi;omega) ?_
  rintro _ _ ⟨cs,es,⟨⟨hc1,hc2⟩,hcB⟩,⟨he1,heB⟩,rfl,rfl⟩
  simp only [go_sem]
  have fi:∀ es':List Ev,es'.length≤es.length→(∀ e∈es',e∈es)→_:=fun es' h1 h2=>c16 cs es' (by omega) (fun c h=>by have:=hcB c h;omega) (by omega) (fun e h=>by have:=heB e (h2 e h);omega)
  have f1:=fi es (Nat.le_refl _) fun e h=>h
  with_reducible repeat' (first|refine br ?_ ?_<;>intro h e<;>(try simp only [e,go_sem])<;>clear e|rw [i64w (by omega)]|refine sd ?_<;>try simp only [go_sem]|(first|refine cr (f1 ..) ?_)<;>try simp only [go_sem]|fail)
  refine callO (c17 cs es (by omega) (fun c h=>by have:=hcB c h;omega) (by omega) (fun e h=>by have:=heB e h;omega)) [] 30 4 (by simp only [go_sem];first|done|simp) (by simp) (by rintro _ _ (⟨w,_,rfl,rfl⟩|⟨_,rfl,rfl⟩)<;>simp) (by intro i hi;rcases (show i=0∨i=1∨i=2∨i=3 by omega) with rfl|rfl|rfl|rfl<;>simp only [go_sem]) ?_
  rintro _ _ (⟨w,hw,rfl,rfl⟩|⟨hw,rfl,rfl⟩)
  · rw [hw]
    have hwi:=play_wi hw
    have hcl:=hwi.cl
    have hnl:=hwi.nl
    simp only [go_sem,Option.isSome_some,Option.getD_some,btt]
    with_reducible repeat' (first|refine br ?_ ?_<;>intro h e<;>(try simp only [e,go_sem,btt])<;>clear e|rw [i64w (by omega)]|refine sd ?_<;>try simp only [go_sem,btt]|fail)
    refine callF (c18 w (wi_wb hwi)) [103000,103001,103002,103003] false (by simp only [go_sem];first|done|simp [E.row,Pc.row,Pair.row,Part.row,Flw.row,Pk.row,Conv.row]) (by simp only [List.mem_cons,List.not_mem_nil,or_false];rintro c (rfl|rfl|rfl|rfl)<;>simp only [go_sem]) rfl (.inr rfl) ?_
    simp only [go_sem]
    obtain ⟨law1,law2⟩:=law_nets hw
    have hf2:=hwi.flows2
    with_reducible repeat' (first|refine br ?_ ?_<;>intro h e<;>(try simp only [e,go_sem])<;>clear e|rw [i64w (by omega)]|refine sd ?_<;>try simp only [go_sem]|fail)
    refine loopN (fun i:Nat=>⟨getL [(5,.pv 1005 0),(9,.int .i64 (i:Int))],getH [(1005,.var 33 [.sl 10 (w.convs.map Conv.row),.sl 3 (w.door.map.map Pair.row),.sl 8 (w.door.flows.map Flw.row),.sl 7 (w.nets.map Pk.row)])]⟩) (fun i=>w.nets.length - i) (fun i=>i≤w.nets.length) 0 (leQ []) (Nat.zero_le _) ?_
    intro i hi
    simp only [go_sem]
    by_cases h:(i:Int)<w.nets.length
    · have hil:i<w.nets.length:=by omega
      have hg:w.nets.getD i default=w.nets[i]:=by simp [List.getD,hil]
      obtain ⟨h1,h2⟩:=law2 _ (List.getElem_mem hil)
      have fz:=c22 w.door w.nets[i].to w.nets[i].frm (by omega)
      have fk:=c23 w.nets[i] (by have:=(pkOk_P h1).len;omega)
      rw [h1] at fk
      simp only [eq_true h,go_sem]
      generalize w.nets[i]=p at *
      rcases h2 with ⟨a,b⟩|⟨a,b⟩|⟨a,b⟩|⟨a,b,hx⟩
      · have a2:=in_no a
        have b2:=out_no3 b
        with_reducible repeat' (first|refine br ?_ ?_<;>intro h e<;>(try simp only [e,go_sem,getD_mp hil,hg,a,a2.1,a2.2,b,b2.1,b2.2])<;>clear e|rw [i64w (by omega)]|refine sd ?_<;>try simp only [go_sem,getD_mp hil,hg,a,a2.1,a2.2,b,b2.1,b2.2]|(first|refine cr (c19 ..) ?_|refine cr (c20 ..) ?_|refine cr (c21 ..) ?_|refine cr (fz ..) ?_|refine cr (fk ..) ?_)<;>try simp only [go_sem,getD_mp hil,hg,a,a2.1,a2.2,b,b2.1,b2.2]|fail)
        all_goals exact ⟨i+1,by omega,by omega,(leQ [])⟩
      · have a2:=door_no a
        have b2:=out_no3 b
        with_reducible repeat' (first|refine br ?_ ?_<;>intro h e<;>(try simp only [e,go_sem,getD_mp hil,hg,a,a2.1,a2.2,b,b2.1,b2.2])<;>clear e|rw [i64w (by omega)]|refine sd ?_<;>try simp only [go_sem,getD_mp hil,hg,a,a2.1,a2.2,b,b2.1,b2.2]|(first|refine cr (c19 ..) ?_|refine cr (c20 ..) ?_|refine cr (c21 ..) ?_|refine cr (fz ..) ?_|refine cr (fk ..) ?_)<;>try simp only [go_sem,getD_mp hil,hg,a,a2.1,a2.2,b,b2.1,b2.2]|fail)
        all_goals exact ⟨i+1,by omega,by omega,(leQ [])⟩
      · have a2:=out_no3 a
        have b2:=door_no b
        with_reducible repeat' (first|refine br ?_ ?_<;>intro h e<;>(try simp only [e,go_sem,getD_mp hil,hg,a,a2.1,a2.2,b,b2.1,b2.2])<;>clear e|rw [i64w (by omega)]|refine sd ?_<;>try simp only [go_sem,getD_mp hil,hg,a,a2.1,a2.2,b,b2.1,b2.2]|(first|refine cr (c19 ..) ?_|refine cr (c20 ..) ?_|refine cr (c21 ..) ?_|refine cr (fz ..) ?_|refine cr (fk ..) ?_)<;>try simp only [go_sem,getD_mp hil,hg,a,a2.1,a2.2,b,b2.1,b2.2]|fail)
        all_goals exact ⟨i+1,by omega,by omega,(leQ [])⟩
      · have a2:=out_no3 a
        have b2:=in_no b
        have hx:=has_ix.2 hx
        rw [hx] at fz
        with_reducible repeat' (first|refine br ?_ ?_<;>intro h e<;>(try simp only [e,go_sem,getD_mp hil,hg,a,a2.1,a2.2,b,b2.1,b2.2])<;>clear e|rw [i64w (by omega)]|refine sd ?_<;>try simp only [go_sem,getD_mp hil,hg,a,a2.1,a2.2,b,b2.1,b2.2]|(first|refine cr (c19 ..) ?_|refine cr (c20 ..) ?_|refine cr (c21 ..) ?_|refine cr (fz ..) ?_|refine cr (fk ..) ?_)<;>try simp only [go_sem,getD_mp hil,hg,a,a2.1,a2.2,b,b2.1,b2.2]|fail)
        all_goals exact ⟨i+1,by omega,by omega,(leQ [])⟩
    · simp only [eq_false h,go_sem]
      with_reducible repeat' (first|refine br ?_ ?_<;>intro h e<;>(try simp only [e,go_sem])<;>clear e|rw [i64w (by omega)]|refine sd ?_<;>try simp only [go_sem]|fail)
      all_goals first|done|omega|(simp;omega)|(simp;done)|trace_state
  · rw [hw]
    simp only [go_sem,Option.isSome_none,Option.getD_none,zero_e,List.map_nil,bff]
    with_reducible repeat' (first|refine br ?_ ?_<;>intro h e<;>(try simp only [e,go_sem,bff])<;>clear e|rw [i64w (by omega)]|refine sd ?_<;>try simp only [go_sem,bff]|fail)
    refine callF (c18 .zero zeroWB) [] true (by simp only [go_sem,zero_e,List.map_nil];first|done|simp) (by simp) rfl (.inl rfl) ?_
    simp only [go_sem,bff]
    with_reducible repeat' (first|refine br ?_ ?_<;>intro h e<;>(try simp only [e,go_sem,bff])<;>clear e|rw [i64w (by omega)]|refine sd ?_<;>try simp only [go_sem,bff]|fail)
    all_goals first
      | (refine callF (c18 .zero zeroWB) [] true (by simp only [go_sem,zero_e,List.map_nil];first|done|simp) (by simp) rfl (.inl rfl) ?_
         simp only [go_sem,bff];done)
      | skip
end Go.Proofs.YtgganfobejnfaaaGreatDoor.W
namespace Go.Proofs.YtgganfobejnfaaaGreatDoor.fnWorldNets
open Go Go.ChangeShapes Go.WideShapes Go.ChangeAt Go.RowKit Go.Proofs.YtgganfobejnfaaaGreatDoor.W
theorem walk (v0:Value) (W:World) (hs:W.ShapedOpen Tryz.prog) (hL:laidMetH Tryz.prog Rows.fnWorldNetsRow.laid W) (hv0:∃ code:M.B,VL.Den W noO noρ noH (.sl 1 (code.map M.byR)) v0) :
    Calls Tryz.prog 3 #[v0] W fun e W'=>e=.returned (.bool true)∧Below W.heap.size W W':=by
  obtain ⟨code,hdv0⟩:=hv0
  have:=Go.Proofs.YtgganfobejnfaaaGreatDoor.W.FnR.calls (c3 code) (us:=[v0]) (gOk rfl hL hs) ⟨rfl,fun j a b ha hb=>by
    match j,ha,hb with
    | 0,ha,hb=>cases ha;cases hb;exact hdv0
    | j+1,ha,hb=>simp at ha⟩
  exact this
set_option maxRecDepth 100000 in
theorem contract (H:Type) (enc:TypeId × Value→H) (W:World) (base:Nat) (args:Array Value) (ds gs:List (DataW H)) (before:List MemPlace)
    (hval:∀ (j:Nat) t v,Tryz.f3.params[j]?=some t→args[j]?=some v→Value.okWide Tryz.prog W .any base t v)
    (hW:DataW.Whole enc Tryz.prog Tryz.f3.params.toList Rows.fnWorldNetsSpec.vars false W args.toList ds gs before) (hL:laidMetH Tryz.prog Rows.fnWorldNetsRow.laid W) (hs:W.ShapedOpen Tryz.prog) :
    Calls Tryz.prog 3 args W fun e W'=>∃ v,e=.returned v∧Rows.fnWorldNetsSpec.post enc Tryz.prog Tryz.f3 false true false false W args v W':=by
  have hW':=hW
  obtain ⟨p,q,hA0,hV,rfl,hfz,hnd⟩:=hW
  have hA:DataW.TrodAll enc Tryz.prog W 0 (fun _=>true) true Tryz.f3.params.toList args.toList ds p:=hA0
  rw [Tryz.params3] at hA hval
  obtain ⟨v0,r0s,d0,d0s,p0,q0,hargs0,rfl,rfl,h0,r0⟩:=trodAll_cons hA
  obtain ⟨e1,e2,e3⟩:=trodAll_nil r0
  subst e1 e2 e3
  obtain rfl:args=#[v0]:=by cases args;simp_all
  obtain ⟨rfl,rfl⟩:=trodVars_none hV
  obtain ⟨a0,len0,cap0,hv0⟩:=okWide_slice Tryz.underlying22 (hval 0 22 v0 rfl rfl)
  have k0:=h0
  have lt0:∀ x∈p0,x.block<W.heap.size:=by obtain ⟨m,hm⟩:=k0;exact DataW.trod_lt m _ _ _ hm
  have hc0:=open_code h0 ⟨a0,len0,cap0,hv0⟩
  clear hA0
  refine (walk v0 W hs hL hc0).mono fun e W' ⟨he,bel⟩=>?_
  subst he
  exact ⟨_,rfl,_,_,_,[],_,[],hW',trodAll_mk1 (shut_bool Tryz.underlying4 _),(trodAll_cons_mk (Below.trod laidOut (by kernel_rfl) (of_decide_eq_true (by kernel_rfl)) k0 bel lt0) trodAll_mk0),rfl,bel.frame _,fun h=>by cases h⟩
theorem inP:(Rows.fnWorldNetsRow.inPlace == Tryz.prog.inPlace 3)=true:=by kernel_rfl
theorem unf:(Rows.fnWorldNetsRow.unfollowed == Tryz.prog.unfollowed 3)=true:=by kernel_rfl
theorem rcs:(Rows.fnWorldNetsRow.recurses == Tryz.prog.recurses 3)=true:=by kernel_rfl
theorem nam:(Rows.fnWorldNetsRow.named == Tryz.prog.varsNamed 3)=true:=by kernel_rfl
theorem lif:(Rows.fnWorldNetsRow.lifted == Tryz.prog.liftsFinal)=true:=lifF
theorem pke:(Rows.fnWorldNetsRow.plainKeys == Tryz.prog.plainKeys)=true:=pkeF
theorem mak:(Tryz.prog.make == some Rows.fnWorldNetsRow.make)=true:=makF
theorem closed0:joinedFacts Tryz.prog 3 Tryz.f3 Rows.fnWorldNetsSpec Rows.fnWorldNetsRow=true:=by
  unfold joinedFacts
  rw [laidOut,mapF,inP,unf,rcs,nam,pke,stoF,mayF,lif,mak]
  kernel_rfl
theorem closed:joinedFacts Tryz.pinned.checked.prog 3 Tryz.f3 (OpenSpec.ofChange Rows.fnWorldNetsSpec).bare Rows.fnWorldNetsRow=true :=
  (show joinedFacts Tryz.pinned.checked.prog 3 Tryz.f3 (OpenSpec.ofChange Rows.fnWorldNetsSpec).bare Rows.fnWorldNetsRow=joinedFacts Tryz.prog 3 Tryz.f3 Rows.fnWorldNetsSpec Rows.fnWorldNetsRow by kernel_rfl).trans closed0
theorem door_met (os:Os) (args:Array Value):laidMetH Tryz.prog Rows.fnWorldNetsRow.laid ((World.doorLaid Tryz.prog 400 os).forCall (fun _ _=>0) ⟨#[],args,[]⟩).memory :=
  laidMetH_of_parts3 (fuel:=8) (laidMet_of_run' 8 (by kernel_rfl) (by kernel_rfl)) (by kernel_rfl) (by kernel_rfl)
theorem reads (os:Os) {H:Type} (enc:TypeId × Value→H):∃ places,DataW.whole enc Tryz.prog ((World.doorLaid Tryz.prog 400 os).forCall (fun _ _=>0) ⟨#[],#[.slice none 0 0],[]⟩).memory Tryz.f3.params.toList Rows.fnWorldNetsSpec.vars false #[Value.slice none 0 0].toList 8=some ([.nil],[],places) :=
  ⟨[],by kernel_rfl⟩
set_option maxRecDepth 100000 in
theorem lifted (os:Os) (started:os.Started) (H:Type) (enc:TypeId × Value→H) (F:Stop.Interp) :
    ReturnsInHanded {} Tryz.checked os 3 .any ((OpenSpec.ofChange Rows.fnWorldNetsSpec).preRow enc Tryz.prog Tryz.f3 Rows.fnWorldNetsRow.domain false Rows.fnWorldNetsRow.laid) (((OpenSpec.ofChange Rows.fnWorldNetsSpec).at F).post enc Tryz.prog Tryz.f3 false true false false):=by
  obtain ⟨places,hx⟩:=reads os enc
  refine returnsInHanded_of_row (C:=Tryz.checked) (s:=OpenSpec.ofChange Rows.fnWorldNetsSpec) own started (by kernel_rfl) Tryz.func3
    (witness_row_atRef (enc:=enc) (C:=Tryz.checked) false (World.doorLaid Tryz.prog 400 os) #[.slice none 0 0] rfl (by kernel_rfl) (by kernel_rfl) (by kernel_rfl)
      (OpenSpec.preRow_of_cond 8 hx (by kernel_rfl) (fun k hk=>by cases hk) (by kernel_rfl) (door_met os _))) ?_
  intro W base args ds gs before hval hW _ _ _ hL hs _
  exact contract H enc W base args ds gs before hval hW hL hs
theorem said:Rows.FnWorldNetsSaid :=
  OpenClaim.holds_of_cond 3 Tryz.f3 rfl rfl rfl rfl rfl rfl rfl ⟨rfl,rfl,rfl,rfl,rfl⟩ rfl rfl rfl rfl rfl (by kernel_rfl) Tryz.func3 closed
    (of_decide_eq_true (by kernel_rfl)) (by unfold Func.isWrapper;first|(rw [if_pos (by decide +kernel)];kernel_rfl)|(rw [if_neg (by decide +kernel)];exact ⟨rfl,rfl⟩))
    (fun os started H enc _ F=>by rw [OpenClaim.pre_eq_preRow];exact lifted os started H enc F)
theorem plain (f:FuncId) (fn:Func) (hf:Tryz.pinned.checked.prog.funcNamed "loop.example/ostiary/laws.FnWorldNets"=some f) (hfn:Tryz.pinned.checked.prog.funcs[f]?=some fn) :
    true=Tryz.pinned.checked.prog.looks []∧∀ (j:Nat) t,fn.params[j]?=some t→Tryz.pinned.checked.prog.wantsStandIn t=false:=by
  obtain rfl:f=3:=Option.some.inj ((show Tryz.prog.funcNamed "loop.example/ostiary/laws.FnWorldNets"=some 3 by kernel_rfl).symm.trans hf) |>.symm
  obtain rfl:fn=Tryz.f3:=(Option.some.inj (Tryz.func3.symm.trans hfn)).symm
  refine ⟨by kernel_rfl,fun j t ht=>?_⟩
  rw [Tryz.params3] at ht
  obtain rfl:t=22:=by simpa using Array.mem_of_getElem? ht
  exact (show Tryz.prog.wantsStandIn 22=false by kernel_rfl)
theorem card:Rows.FnWorldNetsCardSaid :=
  Claim7.holds_tied_plain_at .later [] _ _ _ _ said (fun _ h=>by cases h) (by kernel_rfl) (fun _ h=>by cases h) fnWorldNets_row_tie rfl ⟨rfl,rfl⟩ (by kernel_rfl) rfl plain (by kernel_rfl)
end Go.Proofs.YtgganfobejnfaaaGreatDoor.fnWorldNets
