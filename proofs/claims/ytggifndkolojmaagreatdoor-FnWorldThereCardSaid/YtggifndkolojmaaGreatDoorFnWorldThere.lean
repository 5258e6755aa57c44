/- FnWorldThere: what came outside is what was said inside, by the door's map. Conditions: those of the row alone. -/
import Derived.Test.YtggifndkolojmaaGreatDoorZ07
import Derived.Test.YtggifndkolojmaaGreatDoorZ03
import Derived.Test.YtggifndkolojmaaGreatDoorZ04
import Derived.Test.YtggifndkolojmaaGreatDoorCards
import Derived.Test.YtggifndkolojmaaGreatDoorTie
set_option linter.all false
namespace Go.Proofs.YtggifndkolojmaaGreatDoor.W
open Go Go.RowKit Go.Proofs Go.Proofs.YtggifndkolojmaaGreatDoor.VL Go.Proofs.YtggifndkolojmaaGreatDoor.M
attribute [local congr] optK_congr guardK_congr condK_congr runT_congr runD_congr wpI_congr CallV_congr LoopI_congr pureK_congr effK_congr calK_congr stepV_congr doV_congr exN_congr exB_congr retF_congr retQ_congr gK_congr condW_congr ldK_congr stoK_congr
attribute [local go_sem] argL_cons argL_nil argH_nil argH_cons chH_getH wpI_seq wpI_reg wpI_drw wpI_ret cond_k condW_t condW_f wpI_skip wpI_block wpI_exit wpI_loop exN_n exN_r exN_e exB_n exB_r exB_h exB_m runT_k kT_e runT_nil runD_k kD_e runD_nil step_u step_k gK_t gK_f do_mv do_bino bo_add bo_sub bo_mul bo_subu bo_quo bo_rem bo_xor bo_eql bo_neq bo_lss bo_leq bo_gtr bo_geq bo_cat bo_eqs bo_nes do_pick do_call do_cal calK_f do_box do_alloc do_ldk ldK_s do_stok stoK_s do_fad do_nilc do_not do_neg do_len do_lens do_ext do_eqs do_beq do_isn do_cvi do_sls do_idx do_mn do_mx do_build do_mkf do_s2b do_b2s do_slv do_iad do_bsl do_mks do_app ev_t ev_c app_some app_none
attribute [local go_sem] List.nil_append List.cons_append List.append_nil getL_hit getL_miss getH_nil getH_hit getH_miss nm_eq ne_eq Nat.reduceEqDiff not_false_eq_true Nat.reduceAdd Nat.add_zero Nat.zero_add if_true if_false ite_true ite_false pureK_s effK_s optK_s gdV_t gdV_f gdV_s pick_b ge_iff_le gt_iff_lt cond_true cond_false fresh_k cells_agg cells_int cells_bool cells_str cells_own cells_sl cells_nils ld_pv ld_pa ld_ip ldVar_t ldVar_f ldArr_t ldArr_f ldRow_t ldRow_f ldA_s ld1_s fad_pv fad_pa fad_ip nilc_pv nilc_pa nilc_ip not_b neg_i cvi_i ext_t retF_n retF_r
attribute [local go_sem] resV_k rvs_nil rvs_t rvs_c fstO_s consO_s resK_s resL_1 resL_2 resL_3 resL_4  Option.some.injEq List.map_cons List.map_nil List.all_cons List.all_nil Bool.and_true Bool.and_self Bool.not_true Bool.not_false Option.map_some Option.map_none sls_s slsG_s loV_n loV_i hiV_n hiV_i idx_s mn_i mx_i s2b_s b2s_s bytO_s bytes_nil bytes_cons conB_s slv_sl slv_own slv_nils slvG_s slvN_s slvO_s iad_sl iadG_map take_map drop_map List.length_map iad_own iad_view iadO_a iadW_a mks_i rowO_nils rowO_sl rowO_own rowA_a eq_self appG_nils appG_own appO_a guardP_T mapA_s bld_nil mkf_nil bldF_e fill_nil fill_cons mkf_e lens_s len_nils len_sl len_own len_view isn_nile isn_erre List.getElem?_cons_zero List.getElem?_cons_succ List.length_cons List.length_nil decide_true decide_false Int.toNat_natCast Int.cast_ofNat_Int Int.reduceLT Int.reduceLE Int.reduceEq Int.reduceAdd Int.reduceSub Int.reduceMul Int.reduceNeg Int.reduceToNat List.getD_cons_zero List.getD_cons_succ not_true_eq_false not_false_eq_true Bool.false_eq_true Bool.true_eq_false reduceCtorEq
attribute [local go_sem] E.row Pc.row Pair.row Part.row Strm.row Flw.row Pk.row Door.row Conv.row World.row Ev.row rdV E.eta Pc.eta Pair.eta Part.eta Strm.eta Pk.eta Flw.eta Conv.eta Door.eta World.eta Ev.eta
attribute [local go_sem] sub_ok st_pv st_pa stVar_v stArr_a Nat.le_refl List.drop_zero List.drop_succ_cons List.take_succ_cons List.take_zero setR Nat.reduceLeDiff
attribute [local go_sem] wk_bot wk2_bot wk1_bot wk_undef wk_tup_e wk2_agg_e wk_agg_e wk1_fn_e wk2_fn_e wk_fn_e wkl_nil wkl_cons wkh_var_e wkh_arr_e wkh_fresh_e wkh_dead_v wkh_dead_a wkh_dead_d wk0_undef wk0_int wk0_bool wk0_str wk0_nils wk0_nils_sl wk0_nilp wk0_nile wk0_erre wk0_sl wk0_iptr wk0_own wk0_view wk0_pv wk0_pa fzA_a fzW_a fzP_v wk0_own_sl wk0_view_sl wk0_pv_iptr WkS_nil WkS_cons WkN_nil WkN_cons nonB_nil nonB_cons getN_nil getN_hit getN_miss pinOk_0 pinOk_s and_true true_and and_self
attribute [local go_sem] bot_int one_int unt_int clo_int bot_bool one_bool unt_bool clo_bool bot_str one_str unt_str clo_str bot_nils one_nils unt_nils clo_nils bot_nilp one_nilp unt_nilp clo_nilp bot_nile one_nile unt_nile clo_nile bot_erre one_erre unt_erre clo_erre bot_raw one_raw unt_raw clo_raw bot_sl one_sl unt_sl clo_sl bot_own one_own unt_own clo_own bot_view one_view unt_view clo_view bot_pv one_pv unt_pv clo_pv bot_pa one_pa unt_pa clo_pa bot_iptr one_iptr unt_iptr clo_iptr unt_agg unt_fn one_fn
attribute [local go_sem] rn_tup rn_agg rn2_agg rn_fn rn2_fn rnfn1 rn_bot rn2_bot rn1_bot rn0_int rn0_bool rn0_str rn0_nils rn0_nilp rn0_nile rn0_erre rn0_sl rn0_iptr rn0_own rn0_view rn0_pv rn0_pa hrn_var hrn_arr hrn_dead outU_nil outU_cons deads_nil deads_cons bk_ge bk_lt nsF_0 nsF_s chH_0 chH_s chH_n newN_e andB_s eqR_nil eqR_i eqR_b eqR_s mapX_f mapX_t eqs_a beq_f beq_t live_arr live_var nsl_nil nsl_cons Nat.reduceMul Nat.reduceLT Nat.zero_le Nat.not_lt_zero
attribute [local go_sem] mV lD lA fD bN eX oP nP sR i0 s0
def ic3:IC:=sR [oP 2 (.mv (.c (.bool false)))] (.seq (sR [mV 14 0,oP 15 (.len (.t 14)),oP 16 (.bin .gtr (.t 15) (.c (.int .i64 1048576)))] (.cond (.t 16) (sR [oP 2 (.mv (.c (.bool true)))] .ret) .skip)) (sR [mV 18 0,oP 19 (.call 10 [.t 18]),mV 17 19,eX 20 17 0,eX 21 17 1,mV 3 20,mV 4 21] (sR [mV 23 3,mV 24 4,oP 25 (.call 11 [.t 23,.t 24]),mV 22 25,eX 26 22 0,eX 27 22 1,oP 5 (.alloc 33 [.nils,.nils,.nils,.nils]),nP (.sto 4 (.t 5) (.t 26)),mV 6 27] (sR [mV 29 3,mV 30 4,oP 31 (.call 12 [.t 29,.t 30]),mV 28 31,eX 32 28 0,eX 33 28 1,oP 7 (.alloc 33 [.nils,.nils,.nils,.nils]),nP (.sto 4 (.t 7) (.t 32)),mV 8 33] (.seq (sR [mV 34 6,mV 35 8,oP 36 (.beq true (.t 34) (.t 35)),mV 37 36,⟨some 38,some (37,false),.ld 4 true (.t 5)⟩,⟨some 39,some (37,false),.ld 4 true (.t 7)⟩,⟨some 40,some (37,false),.call 13 [.t 38,.t 39]⟩,⟨some 41,some (37,false),.un .not (.t 40)⟩,oP 42 (.pick (.t 37) (.c (.bool true)) (.t 41)),mV 43 42,⟨some 44,some (43,false),.mv (.t 6)⟩,⟨some 45,some (43,false),.un .not (.t 44)⟩,oP 46 (.pick (.t 43) (.c (.bool true)) (.t 45)),mV 47 46,⟨some 48,some (47,false),.ld 4 true (.t 5)⟩,⟨some 49,some (47,false),.call 14 [.t 48]⟩,⟨some 50,some (47,false),.un .not (.t 49)⟩,oP 51 (.pick (.t 47) (.c (.bool true)) (.t 50))] (.cond (.t 51) (sR [mV 52 6,mV 53 8,oP 54 (.beq false (.t 52) (.t 53)),mV 55 54,⟨some 56,some (55,true),.ld 4 true (.t 5)⟩,⟨some 57,some (55,true),.ld 4 true (.t 7)⟩,⟨some 58,some (55,true),.call 13 [.t 56,.t 57]⟩,oP 59 (.pick (.t 55) (.t 58) (.c (.bool false))),mV 2 59] .ret) .skip)) (.seq (sR [oP 9 (.mv (.c i0))] (.block 0 (.loop (.seq (sR [mV 60 9,fD 61 0 5,lD 62 1 61,oP 63 (.len (.t 62)),bN 64 .lss 60 63] (.cond (.t 64) .skip (.exit 0))) (.seq (.block 1 (sR [fD 67 0 5,lD 68 1 67,mV 69 9,oP 70 (.iad 10 (.t 68) (.t 69)),lA 71 10 70,oP 10 (.alloc 41 [i0,i0,i0,i0,s0,s0,i0,i0,s0,s0]),nP (.sto 10 (.t 10) (.t 71))] (sR [lA 73 4 5,mV 74 9,oP 75 (.call 15 [.t 73,.t 74]),mV 72 75,eX 76 72 0,eX 77 72 1,oP 11 (.alloc 46 [i0,i0,i0,i0,s0,.nils,s0,.nils]),nP (.sto 8 (.t 11) (.t 76)),mV 12 77] (.seq (.seq (.drw [0,1,3,7,15,31,7,71,199,455,1023,2047] [(0,mV 78 12),(1,oP 79 (.un .not (.t 78))),(2,mV 80 79),(3,⟨some 81,some (80,false),.fad 8 (.t 10)⟩),(4,⟨some 82,some (80,false),.ld 1 false (.t 81)⟩),(5,⟨some 83,some (80,false),.lens (.t 82)⟩),(6,⟨some 84,some (80,false),.fad 4 (.t 11)⟩),(7,⟨some 85,some (80,false),.ld 2 true (.t 84)⟩),(8,⟨some 86,some (80,false),.call 16 [.t 85]⟩),(9,⟨some 87,some (80,false),.lens (.t 86)⟩),(10,⟨some 88,some (80,false),.bin .neq (.t 83) (.t 87)⟩),(11,oP 89 (.pick (.t 80) (.c (.bool true)) (.t 88)))]) (.cond (.t 89) (.exit 1) .skip)) (sR [fD 90 1 5,fD 91 0 90,lD 92 1 91,fD 93 8 10,lD 94 1 93,oP 95 (.bin .add (.t 94) (.c (.str [122]))),oP 96 (.call 17 [.t 92,.t 95]),mV 13 96] (.seq (.drw [0,1,3,7,15,15,47,111,255,15,527,2047,4095,8191,16383,32767,32767,98303,229375,524287,1048575,2097151] [(0,mV 97 13),(1,oP 98 (.lens (.t 97))),(2,oP 99 (.bin .eql (.t 98) (.c i0))),(3,mV 100 99),(4,⟨some 101,some (100,false),.mv (.t 13)⟩),(5,⟨some 102,some (100,false),.mv (.t 13)⟩),(6,⟨some 103,some (100,false),.lens (.t 102)⟩),(7,⟨some 104,some (100,false),.bin .sub (.t 103) (.c (.int .i64 1))⟩),(8,⟨some 105,some (100,false),.sls (.t 101) none (some (.t 104))⟩),(9,⟨some 106,some (100,false),.fad 4 (.t 10)⟩),(10,⟨some 107,some (100,false),.ld 1 false (.t 106)⟩),(11,⟨some 108,some (100,false),.call 18 [.t 105,.t 107]⟩),(12,⟨some 109,some (100,false),.un .not (.t 108)⟩),(13,oP 110 (.pick (.t 100) (.c (.bool true)) (.t 109))),(14,mV 111 110),(15,⟨some 112,some (111,false),.mv (.t 13)⟩),(16,⟨some 113,some (111,false),.mv (.t 13)⟩),(17,⟨some 114,some (111,false),.lens (.t 113)⟩),(18,⟨some 115,some (111,false),.bin .sub (.t 114) (.c (.int .i64 1))⟩),(19,⟨some 116,some (111,false),.idx (.t 112) (.t 115)⟩),(20,⟨some 117,some (111,false),.bin .neq (.t 116) (.c (.int .u8 122))⟩),(21,oP 118 (.pick (.t 111) (.c (.bool true)) (.t 117)))]) (.cond (.t 118) (sR [oP 2 (.mv (.c (.bool false)))] .ret) .skip))))))) (.reg [mV 65 9,oP 66 (.bin .add (.t 65) (.c (.int .i64 1))),mV 9 66])))))) (sR [oP 2 (.mv (.c (.bool true)))] .ret)))))))
theorem dg3:Dg Tryz.prog 3 Tryz.f3 ic3 [(.t 2)]:=⟨Tryz.func3,by kernel_rfl,by kernel_rfl⟩
theorem c3 (code:B):FnR Tryz.prog G 3 [.sl 1 (code.map byR)] (.bool true):=by
  refine mF dg3 Tryz.ntmps3 ?_
  simp only [ic3,go_sem]
  by_cases hc:(1048576:Int)<code.length
  · simp only [eq_true hc,go_sem]
  simp only [eq_false hc,go_sem]
  refine callO (c10 code (by omega)) [] 19 0 (by simp only [go_sem];first|done|simp) (by simp) (by rintro _ _ ⟨_,_,_,_,_,rfl⟩;simp) (by intro i hi;omega) ?_
  rintro _ _ ⟨cs,es,⟨⟨hc1,hc2⟩,hcB⟩,⟨he1,heB⟩,rfl,rfl⟩
  simp only [go_sem]
  have fi:∀ es':List Ev,es'.length≤es.length→(∀ e∈es',e∈es)→_:=fun es' h1 h2=>c11 cs es' (by omega) (fun c h=>by have:=hcB c h;omega) (by omega) (fun e h=>by have:=heB e (h2 e h);omega)
  have f1:=fi es (Nat.le_refl _) fun e h=>h
  with_reducible repeat' (first|refine br ?_ ?_<;>intro h e<;>(try simp only [e,go_sem])<;>clear e|rw [i64w (by omega)]|refine sd ?_<;>try simp only [go_sem]|(first|refine cr (f1 ..) ?_)<;>try simp only [go_sem]|fail)
  refine callO (c12 cs es (by omega) (fun c h=>by have:=hcB c h;omega) (by omega) (fun e h=>by have:=heB e h;omega)) [] 31 4 (by simp only [go_sem];first|done|simp) (by simp) (by rintro _ _ (⟨w,_,rfl,rfl⟩|⟨_,rfl,rfl⟩)<;>simp) (by intro i hi;rcases (show i=0∨i=1∨i=2∨i=3 by omega) with rfl|rfl|rfl|rfl<;>simp only [go_sem]) ?_
  rintro _ _ (⟨w,hw,rfl,rfl⟩|⟨hw,rfl,rfl⟩)
  · rw [hw]
    have hwi:=play_wi hw
    have hcl:=hwi.cl
    have hnl:=hwi.nl
    simp only [go_sem,Option.isSome_some,Option.getD_some,btt]
    with_reducible repeat' (first|refine br ?_ ?_<;>intro h e<;>(try simp only [e,go_sem,btt])<;>clear e|rw [i64w (by omega)]|refine sd ?_<;>try simp only [go_sem,btt]|fail)
    refine callF (c13 w (wi_wb hwi)) [103100,103101,103102,103103] false (by simp only [go_sem];first|done|simp [E.row,Pc.row,Pair.row,Part.row,Flw.row,Pk.row,Conv.row]) (by simp only [List.mem_cons,List.not_mem_nil,or_false];rintro c (rfl|rfl|rfl|rfl)<;>simp only [go_sem]) rfl (.inr rfl) ?_
    simp only [go_sem]
    have sw:=play_calm hw
    have fp:=c14 w
    have hml:=(mapOk_ports (doorOk_iff.1 hwi.door).1).2
    have hmk:=(doorOk_iff.1 hwi.door).1
    by_cases hm:(w.door.map.length:Int)≤7
    · rw [decide_eq_true hm] at fp
      have law:=fun i c f hc hf hl=>law_there hw (by omega) (i:=i) (c:=c) hc (f:=f) hf hl
      with_reducible repeat' (first|refine br ?_ ?_<;>intro h e<;>(try simp only [e,go_sem])<;>clear e|rw [i64w (by omega)]|refine sd ?_<;>try simp only [go_sem]|(first|refine cr (fp ..) ?_)<;>try simp only [go_sem]|fail)
      refine loopN (fun i:Nat=>⟨getL [(5,.pv 1005 0),(9,.int .i64 (i:Int))],getH [(1005,.var 33 [.sl 10 (w.convs.map Conv.row),.sl 3 (w.door.map.map Pair.row),.sl 8 (w.door.flows.map Flw.row),.sl 7 (w.nets.map Pk.row)])]⟩) (fun i=>w.convs.length - i) (fun i=>i≤w.convs.length) 0 (leQ []) (Nat.zero_le _) ?_
      intro i hi
      simp only [go_sem]
      by_cases h:(i:Int)<w.convs.length
      · have hil:i<w.convs.length:=by omega
        have hg:w.convs.getD i default=w.convs[i]:=by simp [List.getD,hil]
        have hg2:=List.getElem?_eq_getElem hil
        have ff:=c15 w hwi (si_ok sw) i hil
        have tf:=(si_true sw hg2).2
        have hcb:=convOk_B (hwi.cv _ (List.getElem_mem hil))
        have law:=law i w.convs[i]
        have hgu:=hcb.upGot
        have hup:=hcb.up
        simp only [eq_true h,go_sem]
        generalize w.convs[i]=c at *
        cases hf:worldFlow w i with
        | none =>
          rw [hf] at ff
          simp only [Option.isSome_none,Option.getD_none] at ff
          with_reducible repeat' (first|rw [i64w (by omega)];try simp only [go_sem,hg,getD_mp hil]|refine br ?_ ?_<;>intro h e<;>(try simp only [e,go_sem,hg,getD_mp hil])<;>clear e|refine sd ?_<;>try simp only [go_sem,hg,getD_mp hil]|(first|refine cr (ff ..) ?_)<;>try simp only [go_sem,hg,getD_mp hil]|fail)
          all_goals first
            | exact ⟨i+1,by omega,by omega,(leQ [])⟩
            | trace_state
        | some f =>
          obtain ⟨_,_,_,s1,s2⟩:=tf f hf
          rw [hf] at ff
          simp only [Option.isSome_some,Option.getD_some] at ff
          have g3:=c16 f.up s1
          by_cases hl:c.upGot.length=(sOut f.up).length
          · obtain ⟨s,e1,e2,e3,e4⟩:=law f hg2 hf hl
            have g4:=c17 w.door.map (c.upGot++[122]) (s++[122]) hmk e3 e1 (by simp) (by simp;omega)
            have g5:=c18 s c.up e2 (by omega)
            have hl':((c.upGot.length:Int)=(sOut f.up).length)=True:=eq_true (by omega)
            have k1:((s++[122]:B).length:Int)=s.length+1:=by simp
            have k2:IntKind.i64.wrap ((s.length:Int)+1 - 1)=s.length:=by rw [i64w (by omega)];omega
            have k3:((s++[122]:B).take s.length)=s:=by simp
            have k4:((s++[122]:B).getD s.length 0)=122:=by simp [List.getD]
            have k6:(((122:UInt8).toNat:Nat):Int)=122:=rfl
            have k5:((s.length:Int)+1=0)=False:=eq_false (by omega)
            generalize sOut f.up=so at *
            with_reducible repeat' (first|refine br ?_ ?_<;>intro h e<;>(try simp only [e,go_sem,hg,getD_mp hil,hl',k1,k2,k3,k4,k5,k6,Int.toNat_natCast])<;>clear e|rw [i64w (by omega)]|refine sd ?_<;>try simp only [go_sem,hg,getD_mp hil,hl',k1,k2,k3,k4,k5,k6,Int.toNat_natCast]|(first|refine cr (ff ..) ?_|refine cr (g3 ..) ?_|refine cr (g4 ..) ?_|refine cr (g5 ..) ?_)<;>try simp only [go_sem,hg,getD_mp hil,hl',k1,k2,k3,k4,k5,k6,Int.toNat_natCast]|fail)
            all_goals first
              | exact ⟨i+1,by omega,by omega,(leQ [])⟩
              | trace_state
          · have hl':((c.upGot.length:Int)=(sOut f.up).length)=False:=eq_false (by omega)
            generalize sOut f.up=so at *
            with_reducible repeat' (first|rw [i64w (by omega)];try simp only [go_sem,hg,getD_mp hil,hl']|refine br ?_ ?_<;>intro h e<;>(try simp only [e,go_sem,hg,getD_mp hil,hl'])<;>clear e|refine sd ?_<;>try simp only [go_sem,hg,getD_mp hil,hl']|(first|refine cr (ff ..) ?_|refine cr (g3 ..) ?_)<;>try simp only [go_sem,hg,getD_mp hil,hl']|fail)
            all_goals first
              | exact ⟨i+1,by omega,by omega,(leQ [])⟩
              | trace_state
      · simp only [eq_false h,go_sem]
    · rw [decide_eq_false hm] at fp
      with_reducible repeat' (first|refine br ?_ ?_<;>intro h e<;>(try simp only [e,go_sem,btt])<;>clear e|rw [i64w (by omega)]|refine sd ?_<;>try simp only [go_sem,btt]|(first|refine cr (fp ..) ?_)<;>try simp only [go_sem,btt]|fail)
      all_goals first
        | (refine callF (c13 w (wi_wb hwi)) [103100,103101,103102,103103] true (by simp only [go_sem];first|done|simp [E.row,Pc.row,Pair.row,Part.row,Flw.row,Pk.row,Conv.row]) (by simp only [List.mem_cons,List.not_mem_nil,or_false];rintro c (rfl|rfl|rfl|rfl)<;>simp only [go_sem]) rfl (.inl rfl) ?_
           simp only [go_sem];done)
        | trace_state
  · rw [hw]
    simp only [go_sem,Option.isSome_none,Option.getD_none,zero_e,List.map_nil,bff]
    with_reducible repeat' (first|refine br ?_ ?_<;>intro h e<;>(try simp only [e,go_sem,bff])<;>clear e|rw [i64w (by omega)]|refine sd ?_<;>try simp only [go_sem,bff]|fail)
    refine callF (c13 .zero zeroWB) [] true (by simp only [go_sem,zero_e,List.map_nil];first|done|simp) (by simp) rfl (.inl rfl) ?_
    simp only [go_sem,bff]
    with_reducible repeat' (first|refine br ?_ ?_<;>intro h e<;>(try simp only [e,go_sem,bff])<;>clear e|rw [i64w (by omega)]|refine sd ?_<;>try simp only [go_sem,bff]|fail)
    all_goals first
      | (refine callF (c13 .zero zeroWB) [] true (by simp only [go_sem,zero_e,List.map_nil];first|done|simp) (by simp) rfl (.inl rfl) ?_
         simp only [go_sem,bff];done)
      | skip
end Go.Proofs.YtggifndkolojmaaGreatDoor.W
namespace Go.Proofs.YtggifndkolojmaaGreatDoor.fnWorldThere
open Go Go.ChangeShapes Go.WideShapes Go.ChangeAt Go.RowKit Go.Proofs.YtggifndkolojmaaGreatDoor.W
theorem walk (v0:Value) (W:World) (hs:W.ShapedOpen Tryz.prog) (hL:laidMetH Tryz.prog Rows.fnWorldThereRow.laid W) (hv0:∃ code:M.B,VL.Den W noO noρ noH (.sl 1 (code.map M.byR)) v0) :
    Calls Tryz.prog 3 #[v0] W fun e W'=>e=.returned (.bool true)∧Below W.heap.size W W':=by
  obtain ⟨code,hdv0⟩:=hv0
  have:=Go.Proofs.YtggifndkolojmaaGreatDoor.W.FnR.calls (c3 code) (us:=[v0]) (gOk rfl hL hs) ⟨rfl,fun j a b ha hb=>by
    match j,ha,hb with
    | 0,ha,hb=>cases ha;cases hb;exact hdv0
    | j+1,ha,hb=>simp at ha⟩
  exact this
set_option maxRecDepth 100000 in
theorem contract (H:Type) (enc:TypeId × Value→H) (W:World) (base:Nat) (args:Array Value) (ds gs:List (DataW H)) (before:List MemPlace)
    (hval:∀ (j:Nat) t v,Tryz.f3.params[j]?=some t→args[j]?=some v→Value.okWide Tryz.prog W .any base t v)
    (hW:DataW.Whole enc Tryz.prog Tryz.f3.params.toList Rows.fnWorldThereSpec.vars false W args.toList ds gs before) (hL:laidMetH Tryz.prog Rows.fnWorldThereRow.laid W) (hs:W.ShapedOpen Tryz.prog) :
    Calls Tryz.prog 3 args W fun e W'=>∃ v,e=.returned v∧Rows.fnWorldThereSpec.post enc Tryz.prog Tryz.f3 false true false false W args v W':=by
  have hW':=hW
  obtain ⟨p,q,hA0,hV,rfl,hfz,hnd⟩:=hW
  have hA:DataW.TrodAll enc Tryz.prog W 0 (fun _=>true) true Tryz.f3.params.toList args.toList ds p:=hA0
  rw [Tryz.params3] at hA hval
  obtain ⟨v0,r0s,d0,d0s,p0,q0,hargs0,rfl,rfl,h0,r0⟩:=trodAll_cons hA
  obtain ⟨e1,e2,e3⟩:=trodAll_nil r0
  subst e1 e2 e3
  obtain rfl:args=#[v0]:=by cases args;simp_all
  obtain ⟨rfl,rfl⟩:=trodVars_none hV
  obtain ⟨a0,len0,cap0,hv0⟩:=okWide_slice Tryz.underlying22 (hval 0 22 v0 rfl rfl)
  have k0:=h0
  have lt0:∀ x∈p0,x.block<W.heap.size:=by obtain ⟨m,hm⟩:=k0;exact DataW.trod_lt m _ _ _ hm
  have hc0:=open_code h0 ⟨a0,len0,cap0,hv0⟩
  clear hA0
  refine (walk v0 W hs hL hc0).mono fun e W' ⟨he,bel⟩=>?_
  subst he
  exact ⟨_,rfl,_,_,_,[],_,[],hW',trodAll_mk1 (shut_bool Tryz.underlying4 _),(trodAll_cons_mk (Below.trod laidOut (by kernel_rfl) (of_decide_eq_true (by kernel_rfl)) k0 bel lt0) trodAll_mk0),rfl,bel.frame _,fun h=>by cases h⟩
theorem inP:(Rows.fnWorldThereRow.inPlace == Tryz.prog.inPlace 3)=true:=by kernel_rfl
theorem unf:(Rows.fnWorldThereRow.unfollowed == Tryz.prog.unfollowed 3)=true:=by kernel_rfl
theorem rcs:(Rows.fnWorldThereRow.recurses == Tryz.prog.recurses 3)=true:=by kernel_rfl
theorem nam:(Rows.fnWorldThereRow.named == Tryz.prog.varsNamed 3)=true:=by kernel_rfl
theorem lif:(Rows.fnWorldThereRow.lifted == Tryz.prog.liftsFinal)=true:=lifF
theorem pke:(Rows.fnWorldThereRow.plainKeys == Tryz.prog.plainKeys)=true:=pkeF
theorem mak:(Tryz.prog.make == some Rows.fnWorldThereRow.make)=true:=makF
theorem closed0:joinedFacts Tryz.prog 3 Tryz.f3 Rows.fnWorldThereSpec Rows.fnWorldThereRow=true:=by
  unfold joinedFacts
  rw [laidOut,mapF,inP,unf,rcs,nam,pke,stoF,mayF,lif,mak]
  kernel_rfl
theorem closed:joinedFacts Tryz.pinned.checked.prog 3 Tryz.f3 (OpenSpec.ofChange Rows.fnWorldThereSpec).bare Rows.fnWorldThereRow=true :=
  (show joinedFacts Tryz.pinned.checked.prog 3 Tryz.f3 (OpenSpec.ofChange Rows.fnWorldThereSpec).bare Rows.fnWorldThereRow=joinedFacts Tryz.prog 3 Tryz.f3 Rows.fnWorldThereSpec Rows.fnWorldThereRow by kernel_rfl).trans closed0
theorem door_met (os:Os) (args:Array Value):laidMetH Tryz.prog Rows.fnWorldThereRow.laid ((World.doorLaid Tryz.prog 400 os).forCall (fun _ _=>0) ⟨#[],args,[]⟩).memory :=
  laidMetH_of_parts3 (fuel:=8) (laidMet_of_run' 8 (by kernel_rfl) (by kernel_rfl)) (by kernel_rfl) (by kernel_rfl)
theorem reads (os:Os) {H:Type} (enc:TypeId × Value→H):∃ places,DataW.whole enc Tryz.prog ((World.doorLaid Tryz.prog 400 os).forCall (fun _ _=>0) ⟨#[],#[.slice none 0 0],[]⟩).memory Tryz.f3.params.toList Rows.fnWorldThereSpec.vars false #[Value.slice none 0 0].toList 8=some ([.nil],[],places) :=
  ⟨[],by kernel_rfl⟩
set_option maxRecDepth 100000 in
theorem lifted (os:Os) (started:os.Started) (H:Type) (enc:TypeId × Value→H) (F:Stop.Interp) :
    ReturnsInHanded {} Tryz.checked os 3 .any ((OpenSpec.ofChange Rows.fnWorldThereSpec).preRow enc Tryz.prog Tryz.f3 Rows.fnWorldThereRow.domain false Rows.fnWorldThereRow.laid) (((OpenSpec.ofChange Rows.fnWorldThereSpec).at F).post enc Tryz.prog Tryz.f3 false true false false):=by
  obtain ⟨places,hx⟩:=reads os enc
  refine returnsInHanded_of_row (C:=Tryz.checked) (s:=OpenSpec.ofChange Rows.fnWorldThereSpec) own started (by kernel_rfl) Tryz.func3
    (witness_row_atRef (enc:=enc) (C:=Tryz.checked) false (World.doorLaid Tryz.prog 400 os) #[.slice none 0 0] rfl (by kernel_rfl) (by kernel_rfl) (by kernel_rfl)
      (OpenSpec.preRow_of_cond 8 hx (by kernel_rfl) (fun k hk=>by cases hk) (by kernel_rfl) (door_met os _))) ?_
  intro W base args ds gs before hval hW _ _ _ hL hs _
  exact contract H enc W base args ds gs before hval hW hL hs
theorem said:Rows.FnWorldThereSaid :=
  OpenClaim.holds_of_cond 3 Tryz.f3 rfl rfl rfl rfl rfl rfl rfl ⟨rfl,rfl,rfl,rfl,rfl⟩ rfl rfl rfl rfl rfl (by kernel_rfl) Tryz.func3 closed
    (of_decide_eq_true (by kernel_rfl)) (by unfold Func.isWrapper;first|(rw [if_pos (by decide +kernel)];kernel_rfl)|(rw [if_neg (by decide +kernel)];exact ⟨rfl,rfl⟩))
    (fun os started H enc _ F=>by rw [OpenClaim.pre_eq_preRow];exact lifted os started H enc F)
theorem plain (f:FuncId) (fn:Func) (hf:Tryz.pinned.checked.prog.funcNamed "loop.example/ostiary/laws.FnWorldThere"=some f) (hfn:Tryz.pinned.checked.prog.funcs[f]?=some fn) :
    true=Tryz.pinned.checked.prog.looks []∧∀ (j:Nat) t,fn.params[j]?=some t→Tryz.pinned.checked.prog.wantsStandIn t=false:=by
  obtain rfl:f=3:=Option.some.inj ((show Tryz.prog.funcNamed "loop.example/ostiary/laws.FnWorldThere"=some 3 by kernel_rfl).symm.trans hf) |>.symm
  obtain rfl:fn=Tryz.f3:=(Option.some.inj (Tryz.func3.symm.trans hfn)).symm
  refine ⟨by kernel_rfl,fun j t ht=>?_⟩
  rw [Tryz.params3] at ht
  obtain rfl:t=22:=by simpa using Array.mem_of_getElem? ht
  exact (show Tryz.prog.wantsStandIn 22=false by kernel_rfl)
theorem card:Rows.FnWorldThereCardSaid :=
  Claim7.holds_tied_plain_at .later [] _ _ _ _ said (fun _ h=>by cases h) (by kernel_rfl) (fun _ h=>by cases h) fnWorldThere_row_tie rfl ⟨rfl,rfl⟩ (by kernel_rfl) rfl plain (by kernel_rfl)
end Go.Proofs.YtggifndkolojmaaGreatDoor.fnWorldThere
