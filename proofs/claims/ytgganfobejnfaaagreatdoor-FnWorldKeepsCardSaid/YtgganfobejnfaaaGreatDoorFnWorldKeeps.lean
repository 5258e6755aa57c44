/- FnWorldKeeps: what came stays, in a drawn play cut anywhere. Conditions: those of the row alone. -/
import Derived.Test.YtgganfobejnfaaaGreatDoorX07
import Derived.Test.YtgganfobejnfaaaGreatDoorX03
import Derived.Test.YtgganfobejnfaaaGreatDoorX04
import Derived.Test.YtgganfobejnfaaaGreatDoorCards
import Derived.Test.YtgganfobejnfaaaGreatDoorTie
set_option linter.all false
namespace Go.Proofs.YtgganfobejnfaaaGreatDoor.W
open Go Go.RowKit Go.Proofs Go.Proofs.YtgganfobejnfaaaGreatDoor.VL Go.Proofs.YtgganfobejnfaaaGreatDoor.M
attribute [local congr] optK_congr guardK_congr condK_congr runT_congr runD_congr wpI_congr CallV_congr LoopI_congr pureK_congr effK_congr calK_congr stepV_congr doV_congr exN_congr exB_congr retF_congr retQ_congr gK_congr condW_congr ldK_congr stoK_congr
attribute [local go_sem] argL_cons argL_nil argH_nil argH_cons chH_getH wpI_seq wpI_reg wpI_drw wpI_ret cond_k condW_t condW_f wpI_skip wpI_block wpI_exit wpI_loop exN_n exN_r exN_e exB_n exB_r exB_h exB_m runT_k kT_e runT_nil runD_k kD_e runD_nil step_u step_k gK_t gK_f do_mv do_bino bo_add bo_sub bo_mul bo_subu bo_quo bo_rem bo_xor bo_eql bo_neq bo_lss bo_leq bo_gtr bo_geq bo_cat bo_eqs bo_nes do_pick do_call do_cal calK_f do_box do_alloc do_ldk ldK_s do_stok stoK_s do_fad do_nilc do_not do_neg do_len do_lens do_ext do_eqs do_beq do_isn do_cvi do_sls do_idx do_mn do_mx do_build do_mkf do_s2b do_b2s do_slv do_iad do_bsl do_mks do_app ev_t ev_c app_some app_none
attribute [local go_sem] List.nil_append List.cons_append List.append_nil getL_hit getL_miss getH_nil getH_hit getH_miss nm_eq ne_eq Nat.reduceEqDiff not_false_eq_true Nat.reduceAdd Nat.add_zero Nat.zero_add if_true if_false ite_true ite_false pureK_s effK_s optK_s gdV_t gdV_f gdV_s pick_b ge_iff_le gt_iff_lt cond_true cond_false fresh_k cells_agg cells_int cells_bool cells_str cells_own cells_sl cells_nils ld_pv ld_pa ld_ip ldVar_t ldVar_f ldArr_t ldArr_f ldRow_t ldRow_f ldA_s ld1_s fad_pv fad_pa fad_ip nilc_pv nilc_pa nilc_ip not_b neg_i cvi_i ext_t retF_n retF_r
attribute [local go_sem] resV_k rvs_nil rvs_t rvs_c fstO_s consO_s resK_s resL_1 resL_2 resL_3 resL_4  Option.some.injEq List.map_cons List.map_nil List.all_cons List.all_nil Bool.and_true Bool.and_self Bool.not_true Bool.not_false Option.map_some Option.map_none sls_s slsG_s loV_n loV_i hiV_n hiV_i idx_s mn_i mx_i s2b_s b2s_s bytO_s bytes_nil bytes_cons conB_s slv_sl slv_own slv_nils slvG_s slvN_s slvO_s iad_sl iadG_map take_map drop_map List.length_map iad_own iad_view iadO_a iadW_a mks_i rowO_nils rowO_sl rowO_own rowA_a eq_self appG_nils appG_own appO_a guardP_T mapA_s bld_nil mkf_nil bldF_e fill_nil fill_cons mkf_e lens_s len_nils len_sl len_own len_view isn_nile isn_erre List.getElem?_cons_zero List.getElem?_cons_succ List.length_cons List.length_nil decide_true decide_false Int.toNat_natCast Int.cast_ofNat_Int Int.reduceLT Int.reduceLE Int.reduceEq Int.reduceAdd Int.reduceSub Int.reduceMul Int.reduceNeg Int.reduceToNat List.getD_cons_zero List.getD_cons_succ not_true_eq_false not_false_eq_true Bool.false_eq_true Bool.true_eq_false reduceCtorEq
attribute [local go_sem] E.row Pc.row Pair.row Part.row Strm.row Flw.row Pk.row Door.row Conv.row World.row Ev.row rdV E.eta Pc.eta Pair.eta Part.eta Strm.eta Pk.eta Flw.eta Conv.eta Door.eta World.eta Ev.eta
attribute [local go_sem] sub_ok st_pv st_pa stVar_v stArr_a Nat.le_refl List.drop_zero List.drop_succ_cons List.take_succ_cons List.take_zero setR Nat.reduceLeDiff
attribute [local go_sem] wk_bot wk2_bot wk1_bot wk_undef wk_tup_e wk2_agg_e wk_agg_e wk1_fn_e wk2_fn_e wk_fn_e wkl_nil wkl_cons wkh_var_e wkh_arr_e wkh_fresh_e wkh_dead_v wkh_dead_a wkh_dead_d wk0_undef wk0_int wk0_bool wk0_str wk0_nils wk0_nils_sl wk0_nilp wk0_nile wk0_erre wk0_sl wk0_iptr wk0_own wk0_view wk0_pv wk0_pa fzA_a fzW_a fzP_v wk0_own_sl wk0_view_sl wk0_pv_iptr WkS_nil WkS_cons WkN_nil WkN_cons nonB_nil nonB_cons getN_nil getN_hit getN_miss pinOk_0 pinOk_s and_true true_and and_self
attribute [local go_sem] bot_int one_int unt_int clo_int bot_bool one_bool unt_bool clo_bool bot_str one_str unt_str clo_str bot_nils one_nils unt_nils clo_nils bot_nilp one_nilp unt_nilp clo_nilp bot_nile one_nile unt_nile clo_nile bot_erre one_erre unt_erre clo_erre bot_raw one_raw unt_raw clo_raw bot_sl one_sl unt_sl clo_sl bot_own one_own unt_own clo_own bot_view one_view unt_view clo_view bot_pv one_pv unt_pv clo_pv bot_pa one_pa unt_pa clo_pa bot_iptr one_iptr unt_iptr clo_iptr unt_agg unt_fn one_fn
attribute [local go_sem] rn_tup rn_agg rn2_agg rn_fn rn2_fn rnfn1 rn_bot rn2_bot rn1_bot rn0_int rn0_bool rn0_str rn0_nils rn0_nilp rn0_nile rn0_erre rn0_sl rn0_iptr rn0_own rn0_view rn0_pv rn0_pa hrn_var hrn_arr hrn_dead outU_nil outU_cons deads_nil deads_cons bk_ge bk_lt nsF_0 nsF_s chH_0 chH_s chH_n newN_e andB_s eqR_nil eqR_i eqR_b eqR_s mapX_f mapX_t eqs_a beq_f beq_t live_arr live_var nsl_nil nsl_cons Nat.reduceMul Nat.reduceLT Nat.zero_le Nat.not_lt_zero
attribute [local go_sem] mV lD lA fD bN eX oP nP sR i0 s0
def ic6:IC:=sR [oP 4 (.mv (.c (.bool false)))] (.seq (sR [mV 20 0,oP 21 (.len (.t 20)),oP 22 (.bin .gtr (.t 21) (.c (.int .i64 1048576))),mV 23 22,⟨some 24,some (23,false),.mv (.t 1)⟩,⟨some 25,some (23,false),.len (.t 24)⟩,⟨some 26,some (23,false),.bin .gtr (.t 25) (.c (.int .i64 1048576))⟩,oP 27 (.pick (.t 23) (.c (.bool true)) (.t 26))] (.cond (.t 27) (sR [oP 4 (.mv (.c (.bool true)))] .ret) .skip)) (sR [mV 29 0,oP 30 (.call 15 [.t 29]),mV 28 30,eX 31 28 0,eX 32 28 1,mV 5 31,mV 6 32] (sR [mV 34 5,mV 35 6,oP 36 (.call 16 [.t 34,.t 35]),mV 33 36,eX 37 33 0,eX 38 33 1,oP 7 (.alloc 33 [.nils,.nils,.nils,.nils]),nP (.sto 4 (.t 7) (.t 37)),mV 8 38] (sR [mV 40 5,mV 41 6,oP 42 (.call 17 [.t 40,.t 41]),mV 39 42,eX 43 39 0,eX 44 39 1,oP 9 (.alloc 33 [.nils,.nils,.nils,.nils]),nP (.sto 4 (.t 9) (.t 43)),mV 10 44] (.seq (sR [mV 45 8,mV 46 10,oP 47 (.beq true (.t 45) (.t 46)),mV 48 47,⟨some 49,some (48,false),.ld 4 true (.t 7)⟩,⟨some 50,some (48,false),.ld 4 true (.t 9)⟩,⟨some 51,some (48,false),.call 18 [.t 49,.t 50]⟩,⟨some 52,some (48,false),.un .not (.t 51)⟩,oP 53 (.pick (.t 48) (.c (.bool true)) (.t 52)),mV 54 53,⟨some 55,some (54,false),.mv (.t 8)⟩,⟨some 56,some (54,false),.un .not (.t 55)⟩,oP 57 (.pick (.t 54) (.c (.bool true)) (.t 56))] (.cond (.t 57) (sR [mV 58 8,mV 59 10,oP 60 (.beq false (.t 58) (.t 59)),mV 61 60,⟨some 62,some (61,true),.ld 4 true (.t 7)⟩,⟨some 63,some (61,true),.ld 4 true (.t 9)⟩,⟨some 64,some (61,true),.call 18 [.t 62,.t 63]⟩,oP 65 (.pick (.t 61) (.t 64) (.c (.bool false))),mV 4 65] .ret) .skip)) (sR [mV 67 5,mV 68 6,mV 69 1,oP 70 (.len (.t 69)),mV 71 6,oP 72 (.len (.t 71)),oP 73 (.bin .add (.t 72) (.c (.int .i64 1))),bN 74 .rem 70 73,oP 75 (.slv 11 (.t 68) none (some (.t 74))),oP 76 (.call 16 [.t 67,.t 75]),mV 66 76,eX 77 66 0,eX 78 66 1,oP 11 (.alloc 33 [.nils,.nils,.nils,.nils]),nP (.sto 4 (.t 11) (.t 77)),mV 12 78] (.seq (sR [oP 13 (.mv (.c i0))] (.block 0 (.loop (.seq (sR [mV 79 13,fD 80 0 11,lD 81 1 80,oP 82 (.len (.t 81)),bN 83 .lss 79 82] (.cond (.t 83) .skip (.exit 0))) (.seq (.block 1 (sR [fD 86 0 11,lD 87 1 86,mV 88 13,oP 89 (.iad 10 (.t 87) (.t 88)),lA 90 10 89,oP 14 (.alloc 56 [i0,i0,i0,i0,s0,s0,i0,i0,s0,s0]),nP (.sto 10 (.t 14) (.t 90))] (sR [fD 91 0 7,lD 92 1 91,mV 93 13,oP 94 (.iad 10 (.t 92) (.t 93)),lA 95 10 94,oP 15 (.alloc 56 [i0,i0,i0,i0,s0,s0,i0,i0,s0,s0]),nP (.sto 10 (.t 15) (.t 95))] (.seq (sR [fD 96 8 14,lD 97 1 96,fD 98 8 15,lD 99 1 98,oP 100 (.call 25 [.t 97,.t 99]),oP 101 (.un .not (.t 100)),mV 102 101,⟨some 103,some (102,false),.fad 9 (.t 14)⟩,⟨some 104,some (102,false),.ld 1 false (.t 103)⟩,⟨some 105,some (102,false),.fad 9 (.t 15)⟩,⟨some 106,some (102,false),.ld 1 false (.t 105)⟩,⟨some 107,some (102,false),.call 25 [.t 104,.t 106]⟩,⟨some 108,some (102,false),.un .not (.t 107)⟩,oP 109 (.pick (.t 102) (.c (.bool true)) (.t 108)),mV 110 109,⟨some 111,some (110,false),.fad 6 (.t 14)⟩,⟨some 112,some (110,false),.ld 1 false (.t 111)⟩,⟨some 113,some (110,false),.fad 6 (.t 15)⟩,⟨some 114,some (110,false),.ld 1 false (.t 113)⟩,⟨some 115,some (110,false),.bin .gtr (.t 112) (.t 114)⟩,oP 116 (.pick (.t 110) (.c (.bool true)) (.t 115)),mV 117 116,⟨some 118,some (117,false),.fad 7 (.t 14)⟩,⟨some 119,some (117,false),.ld 1 false (.t 118)⟩,⟨some 120,some (117,false),.fad 7 (.t 15)⟩,⟨some 121,some (117,false),.ld 1 false (.t 120)⟩,⟨some 122,some (117,false),.bin .gtr (.t 119) (.t 121)⟩,oP 123 (.pick (.t 117) (.c (.bool true)) (.t 122))] (.cond (.t 123) (sR [oP 4 (.mv (.c (.bool false)))] .ret) .skip)) (sR [lA 125 4 11,mV 126 13,oP 127 (.call 26 [.t 125,.t 126]),mV 124 127,eX 128 124 0,eX 129 124 1,oP 16 (.alloc 46 [i0,i0,i0,i0,s0,.nils,s0,.nils]),nP (.sto 8 (.t 16) (.t 128)),mV 17 129] (sR [lA 131 4 7,mV 132 13,oP 133 (.call 26 [.t 131,.t 132]),mV 130 133,eX 134 130 0,eX 135 130 1,oP 18 (.alloc 46 [i0,i0,i0,i0,s0,.nils,s0,.nils]),nP (.sto 8 (.t 18) (.t 134)),mV 19 135] (.seq (.drw [0,1,3,7,15,31,63,127,31,287,1023,2047,4095,8191,16383,32767,65535,131071,32767,294911,1048575,2097151,4194303,8388607,16777215] [(0,mV 136 17),(1,mV 137 136),(2,⟨some 138,some (137,true),.mv (.t 19)⟩),(3,⟨some 139,some (137,true),.un .not (.t 138)⟩),(4,⟨some 140,some (137,true),.mv (.t 139)⟩),(5,⟨some 141,some (140,false),.fad 4 (.t 16)⟩),(6,⟨some 142,some (140,false),.ld 2 true (.t 141)⟩),(7,⟨some 143,some (140,false),.call 27 [.t 142]⟩),(8,⟨some 144,some (140,false),.fad 4 (.t 18)⟩),(9,⟨some 145,some (140,false),.ld 2 true (.t 144)⟩),(10,⟨some 146,some (140,false),.call 27 [.t 145]⟩),(11,⟨some 147,some (140,false),.call 25 [.t 143,.t 146]⟩),(12,⟨some 148,some (140,false),.un .not (.t 147)⟩),(13,⟨some 149,some (137,true),.pick (.t 140) (.c (.bool true)) (.t 148)⟩),(14,⟨some 150,some (137,true),.mv (.t 149)⟩),(15,⟨some 151,some (150,false),.fad 6 (.t 16)⟩),(16,⟨some 152,some (150,false),.ld 2 true (.t 151)⟩),(17,⟨some 153,some (150,false),.call 27 [.t 152]⟩),(18,⟨some 154,some (150,false),.fad 6 (.t 18)⟩),(19,⟨some 155,some (150,false),.ld 2 true (.t 154)⟩),(20,⟨some 156,some (150,false),.call 27 [.t 155]⟩),(21,⟨some 157,some (150,false),.call 25 [.t 153,.t 156]⟩),(22,⟨some 158,some (150,false),.un .not (.t 157)⟩),(23,⟨some 159,some (137,true),.pick (.t 150) (.c (.bool true)) (.t 158)⟩),(24,oP 160 (.pick (.t 137) (.t 159) (.c (.bool false))))]) (.cond (.t 160) (sR [oP 4 (.mv (.c (.bool false)))] .ret) .skip)))))))) (.reg [mV 84 13,oP 85 (.bin .add (.t 84) (.c (.int .i64 1))),mV 13 85])))))) (sR [mV 161 12,mV 4 161] .ret))))))))
theorem dg6:Dg Tryz.prog 6 Tryz.f6 ic6 [(.t 4)]:=⟨Tryz.func6,by kernel_rfl,by kernel_rfl⟩
theorem c6 (code more:B):FnR Tryz.prog G 6 [.sl 1 (code.map byR),.sl 1 (more.map byR)] (.bool true):=by
  refine mF dg6 Tryz.ntmps6 ?_
  simp only [ic6,go_sem]
  by_cases hc:(1048576:Int)<code.length
  · simp only [eq_true hc,go_sem]
  simp only [eq_false hc,go_sem]
  by_cases hm:(1048576:Int)<more.length
  · simp only [eq_true hm,go_sem]
  simp only [eq_false hm,go_sem]
  refine callO (c15 code (by omega)) [] 30 0 (by simp only [go_sem];first|done|simp) (by simp) (by rintro _ _ ⟨_,_,_,_,_,rfl⟩;simp) (by intro i hi;omega) ?_
  rintro _ _ ⟨cs,es,⟨⟨hc1,hc2⟩,hcB⟩,⟨he1,heB⟩,rfl,rfl⟩
  simp only [go_sem]
  have fi:∀ es':List Ev,es'.length≤es.length→(∀ e∈es',e∈es)→_:=fun es' h1 h2=>c16 cs es' (by omega) (fun c h=>by have:=hcB c h;omega) (by omega) (fun e h=>by have:=heB e (h2 e h);omega)
  have f1:=fi es (Nat.le_refl _) fun e h=>h
  with_reducible repeat' (first|refine br ?_ ?_<;>intro h e<;>(try simp only [e,go_sem])<;>clear e|rw [i64w (by omega)]|refine sd ?_<;>try simp only [go_sem]|(first|refine cr (f1 ..) ?_)<;>try simp only [go_sem]|fail)
  refine callO (c17 cs es (by omega) (fun c h=>by have:=hcB c h;omega) (by omega) (fun e h=>by have:=heB e h;omega)) [] 42 4 (by simp only [go_sem];first|done|simp) (by simp) (by rintro _ _ (⟨w,_,rfl,rfl⟩|⟨_,rfl,rfl⟩)<;>simp) (by intro i hi;rcases (show i=0∨i=1∨i=2∨i=3 by omega) with rfl|rfl|rfl|rfl<;>simp only [go_sem]) ?_
  rintro _ _ (⟨w,hw,rfl,rfl⟩|⟨hw,rfl,rfl⟩)
  · rw [hw]
    have hwi:=play_wi hw
    have hcl:=hwi.cl
    have hnl:=hwi.nl
    simp only [go_sem,Option.isSome_some,Option.getD_some,btt]
    with_reducible repeat' (first|refine br ?_ ?_<;>intro h e<;>(try simp only [e,go_sem,btt])<;>clear e|rw [i64w (by omega)]|refine sd ?_<;>try simp only [go_sem,btt]|fail)
    refine callF (c18 w (wi_wb hwi)) [104200,104201,104202,104203] false (by simp only [go_sem];first|done|simp [E.row,Pc.row,Pair.row,Part.row,Flw.row,Pk.row,Conv.row]) (by simp only [List.mem_cons,List.not_mem_nil,or_false];rintro c (rfl|rfl|rfl|rfl)<;>simp only [go_sem]) rfl (.inr rfl) ?_
    simp only [go_sem]
    obtain ⟨n,hn,hnl'⟩:=tmod_nat more.length (es.length+1) (by omega)
    rw [Int.natCast_add,Int.natCast_one] at hn
    obtain ⟨x,hx,hxl,law⟩:=law_keeps hw n
    have f2:=fi (es.take n) (by simp;omega) fun e h=>List.mem_of_mem_take h
    rw [hx] at f2
    simp only [Option.isSome_some,Option.getD_some] at f2
    have hw1:IntKind.i64.wrap ((es.length:Int)+1)=es.length+1:=i64w (by omega)
    simp only [hw1]
    have sw:=play_calm hw
    have sx:=play_calm hx
    with_reducible repeat' (first|refine br ?_ ?_<;>intro h e<;>(try simp only [e,go_sem,hn,Int.toNat_natCast,take_map,List.drop_zero])<;>clear e|rw [i64w (by omega)]|refine sd ?_<;>try simp only [go_sem,hn,Int.toNat_natCast,take_map,List.drop_zero]|(first|refine cr (f2 ..) ?_)<;>try simp only [go_sem,hn,Int.toNat_natCast,take_map,List.drop_zero]|fail)
    refine loopN (fun i:Nat=>⟨getL [(7,.pv 1007 0),(11,.pv 1011 0),(12,.bool true),(13,.int .i64 (i:Int))],getH [(1007,.var 33 [.sl 10 (w.convs.map Conv.row),.sl 3 (w.door.map.map Pair.row),.sl 8 (w.door.flows.map Flw.row),.sl 7 (w.nets.map Pk.row)]),(1011,.var 33 [.sl 10 (x.convs.map Conv.row),.sl 3 (x.door.map.map Pair.row),.sl 8 (x.door.flows.map Flw.row),.sl 7 (x.nets.map Pk.row)])]⟩) (fun i=>x.convs.length - i) (fun i=>i≤x.convs.length) 0 (leQ []) (Nat.zero_le _) ?_
    intro i hi
    simp only [go_sem]
    by_cases h:(i:Int)<x.convs.length
    · have hil:i<x.convs.length:=by omega
      have hil2:i<w.convs.length:=by omega
      have hg:x.convs.getD i default=x.convs[i]:=by simp [List.getD,hil]
      have hg2:w.convs.getD i default=w.convs[i]:=by simp [List.getD,hil2]
      have hga:=List.getElem?_eq_getElem hil
      have hgb:=List.getElem?_eq_getElem hil2
      have hcb:=convOk_B (hwi.cv _ (List.getElem_mem hil2))
      obtain ⟨hc,hfl⟩:=law i _ _ hga hgb
      have ff:=c26 x sx.wi (si_ok sx) i hil
      have fg:=c26 w hwi (si_ok sw) i hil2
      have tf:=(si_true sx hga).2
      have tg:=(si_true sw hgb).2
      simp only [eq_true h,go_sem]
      generalize x.convs[i]=a at *
      generalize w.convs[i]=b at *
      have p1:a.upGot <+: b.upGot:=by obtain ⟨y,hy⟩:=hc.upGot;rw [hy];exact List.prefix_append _ _
      have p2:a.downGot <+: b.downGot:=by obtain ⟨y,hy⟩:=hc.downGot;rw [hy];exact List.prefix_append _ _
      have b1:=hcb.upGot
      have b2:=hcb.downGot
      have q1:=c25 a.upGot b.upGot p1 (by omega)
      have q2:=c25 a.downGot b.downGot p2 (by omega)
      have a1:¬ (b.upAck<a.upAck):=by have:=hc.upAck;omega
      have a2:¬ (b.downAck<a.downAck):=by have:=hc.downAck;omega
      clear p1 p2 b1 b2 hcb
      cases hf:worldFlow x i with
      | none =>
        rw [hf] at ff
        simp only [Option.isSome_none,Option.getD_none] at ff
        generalize worldFlow w i=o at *
        with_reducible repeat' (first|rw [i64w (by omega)];try simp only [go_sem,hg,hg2,getD_mp hil,getD_mp hil2,eq_false a1,eq_false a2]|refine br ?_ ?_<;>intro h e<;>(try simp only [e,go_sem,hg,hg2,getD_mp hil,getD_mp hil2,eq_false a1,eq_false a2])<;>clear e|refine sd ?_<;>try simp only [go_sem,hg,hg2,getD_mp hil,getD_mp hil2,eq_false a1,eq_false a2]|(first|refine cr (q1 ..) ?_|refine cr (q2 ..) ?_|refine cr (ff ..) ?_|refine cr (fg ..) ?_)<;>try simp only [go_sem,hg,hg2,getD_mp hil,getD_mp hil2,eq_false a1,eq_false a2]|fail)
        all_goals first
          | exact ⟨i+1,by omega,by omega,(leQ [])⟩
          | trace_state
      | some f =>
        obtain ⟨g,hgg,k1,k2⟩:=hfl f hf
        obtain ⟨_,_,_,s1,s2⟩:=tf f hf
        obtain ⟨_,_,_,s3,s4⟩:=tg g hgg
        rw [hf] at ff
        rw [hgg] at fg
        simp only [Option.isSome_some,Option.getD_some] at ff fg
        have n1:=sOut_len (strmOk_B s3)
        have n2:=sOut_len (strmOk_B s4)
        have r1:=c27 f.up s1
        have r2:=c27 f.down s2
        have r3:=c27 g.up s3
        have r4:=c27 g.down s4
        have r5:=c25 (sOut f.up) (sOut g.up) k1 (by omega)
        have r6:=c25 (sOut f.down) (sOut g.down) k2 (by omega)
        with_reducible repeat' (first|rw [i64w (by omega)];try simp only [go_sem,hg,hg2,getD_mp hil,getD_mp hil2,eq_false a1,eq_false a2]|refine br ?_ ?_<;>intro h e<;>(try simp only [e,go_sem,hg,hg2,getD_mp hil,getD_mp hil2,eq_false a1,eq_false a2])<;>clear e|refine sd ?_<;>try simp only [go_sem,hg,hg2,getD_mp hil,getD_mp hil2,eq_false a1,eq_false a2]|(first|refine cr (q1 ..) ?_|refine cr (q2 ..) ?_|refine cr (ff ..) ?_|refine cr (fg ..) ?_|refine cr (r1 ..) ?_|refine cr (r2 ..) ?_|refine cr (r3 ..) ?_|refine cr (r4 ..) ?_|refine cr (r5 ..) ?_|refine cr (r6 ..) ?_)<;>try simp only [go_sem,hg,hg2,getD_mp hil,getD_mp hil2,eq_false a1,eq_false a2]|fail)
        all_goals first
          | exact ⟨i+1,by omega,by omega,(leQ [])⟩
          | trace_state
    · simp only [eq_false h,go_sem]
  · rw [hw]
    simp only [go_sem,Option.isSome_none,Option.getD_none,zero_e,List.map_nil,bff]
    with_reducible repeat' (first|refine br ?_ ?_<;>intro h e<;>(try simp only [e,go_sem,bff])<;>clear e|rw [i64w (by omega)]|refine sd ?_<;>try simp only [go_sem,bff]|fail)
    refine callF (c18 .zero zeroWB) [] true (by simp only [go_sem,zero_e,List.map_nil];first|done|simp) (by simp) rfl (.inl rfl) ?_
    simp only [go_sem,bff]
    with_reducible repeat' (first|refine br ?_ ?_<;>intro h e<;>(try simp only [e,go_sem,bff])<;>clear e|rw [i64w (by omega)]|refine sd ?_<;>try simp only [go_sem,bff]|fail)
    all_goals first
      | (refine callF (c18 .zero zeroWB) [] true (by simp only [go_sem,zero_e,List.map_nil];first|done|simp) (by simp) rfl (.inl rfl) ?_
         simp only [go_sem,bff];done)
      | skip
end Go.Proofs.YtgganfobejnfaaaGreatDoor.W
namespace Go.Proofs.YtgganfobejnfaaaGreatDoor.fnWorldKeeps
open Go Go.ChangeShapes Go.WideShapes Go.ChangeAt Go.RowKit Go.Proofs.YtgganfobejnfaaaGreatDoor.W
theorem walk (v0 v1:Value) (W:World) (hs:W.ShapedOpen Tryz.prog) (hL:laidMetH Tryz.prog Rows.fnWorldKeepsRow.laid W) (hv0:∃ code:M.B,VL.Den W noO noρ noH (.sl 1 (code.map M.byR)) v0) (hv1:∃ code:M.B,VL.Den W noO noρ noH (.sl 1 (code.map M.byR)) v1) :
    Calls Tryz.prog 6 #[v0,v1] W fun e W'=>e=.returned (.bool true)∧Below W.heap.size W W':=by
  obtain ⟨code,hdv0⟩:=hv0
  obtain ⟨more,hdv1⟩:=hv1
  have:=Go.Proofs.YtgganfobejnfaaaGreatDoor.W.FnR.calls (c6 code more) (us:=[v0,v1]) (gOk rfl hL hs) ⟨rfl,fun j a b ha hb=>by
    match j,ha,hb with
    | 0,ha,hb=>cases ha;cases hb;exact hdv0
    | 1,ha,hb=>cases ha;cases hb;exact hdv1
    | j+2,ha,hb=>simp at ha⟩
  exact this
set_option maxRecDepth 100000 in
theorem contract (H:Type) (enc:TypeId × Value→H) (W:World) (base:Nat) (args:Array Value) (ds gs:List (DataW H)) (before:List MemPlace)
    (hval:∀ (j:Nat) t v,Tryz.f6.params[j]?=some t→args[j]?=some v→Value.okWide Tryz.prog W .any base t v)
    (hW:DataW.Whole enc Tryz.prog Tryz.f6.params.toList Rows.fnWorldKeepsSpec.vars false W args.toList ds gs before) (hL:laidMetH Tryz.prog Rows.fnWorldKeepsRow.laid W) (hs:W.ShapedOpen Tryz.prog) :
    Calls Tryz.prog 6 args W fun e W'=>∃ v,e=.returned v∧Rows.fnWorldKeepsSpec.post enc Tryz.prog Tryz.f6 false true false false W args v W':=by
  have hW':=hW
  obtain ⟨p,q,hA0,hV,rfl,hfz,hnd⟩:=hW
  have hA:DataW.TrodAll enc Tryz.prog W 0 (fun _=>true) true Tryz.f6.params.toList args.toList ds p:=hA0
  rw [Tryz.params6] at hA hval
  obtain ⟨v0,r0s,d0,d0s,p0,q0,hargs0,rfl,rfl,h0,r0⟩:=trodAll_cons hA
  obtain ⟨v1,r1s,d1,d1s,p1,q1,hargs1,rfl,rfl,h1,r1⟩:=trodAll_cons r0
  obtain ⟨e1,e2,e3⟩:=trodAll_nil r1
  subst e1 e2 e3
  obtain rfl:args=#[v0,v1]:=by cases args;simp_all
  obtain ⟨rfl,rfl⟩:=trodVars_none hV
  obtain ⟨a0,len0,cap0,hv0⟩:=okWide_slice Tryz.underlying22 (hval 0 22 v0 rfl rfl)
  have k0:=h0
  have lt0:∀ x∈p0,x.block<W.heap.size:=by obtain ⟨m,hm⟩:=k0;exact DataW.trod_lt m _ _ _ hm
  have hc0:=open_code h0 ⟨a0,len0,cap0,hv0⟩
  obtain ⟨a1,len1,cap1,hv1⟩:=okWide_slice Tryz.underlying22 (hval 1 22 v1 rfl rfl)
  have k1:=h1
  have lt1:∀ x∈p1,x.block<W.heap.size:=by obtain ⟨m,hm⟩:=k1;exact DataW.trod_lt m _ _ _ hm
  have hc1:=open_code h1 ⟨a1,len1,cap1,hv1⟩
  clear hA0
  refine (walk v0 v1 W hs hL hc0 hc1).mono fun e W' ⟨he,bel⟩=>?_
  subst he
  exact ⟨_,rfl,_,_,_,[],_,[],hW',trodAll_mk1 (shut_bool Tryz.underlying4 _),(trodAll_cons_mk (Below.trod laidOut (by kernel_rfl) (of_decide_eq_true (by kernel_rfl)) k0 bel lt0) (trodAll_cons_mk (Below.trod laidOut (by kernel_rfl) (of_decide_eq_true (by kernel_rfl)) k1 bel lt1) trodAll_mk0)),rfl,bel.frame _,fun h=>by cases h⟩
theorem inP:(Rows.fnWorldKeepsRow.inPlace == Tryz.prog.inPlace 6)=true:=by kernel_rfl
theorem unf:(Rows.fnWorldKeepsRow.unfollowed == Tryz.prog.unfollowed 6)=true:=by kernel_rfl
theorem rcs:(Rows.fnWorldKeepsRow.recurses == Tryz.prog.recurses 6)=true:=by kernel_rfl
theorem nam:(Rows.fnWorldKeepsRow.named == Tryz.prog.varsNamed 6)=true:=by kernel_rfl
theorem lif:(Rows.fnWorldKeepsRow.lifted == Tryz.prog.liftsFinal)=true:=lifF
theorem pke:(Rows.fnWorldKeepsRow.plainKeys == Tryz.prog.plainKeys)=true:=pkeF
theorem mak:(Tryz.prog.make == some Rows.fnWorldKeepsRow.make)=true:=makF
theorem closed0:joinedFacts Tryz.prog 6 Tryz.f6 Rows.fnWorldKeepsSpec Rows.fnWorldKeepsRow=true:=by
  unfold joinedFacts
  rw [laidOut,mapF,inP,unf,rcs,nam,pke,stoF,mayF,lif,mak]
  kernel_rfl
theorem closed:joinedFacts Tryz.pinned.checked.prog 6 Tryz.f6 (OpenSpec.ofChange Rows.fnWorldKeepsSpec).bare Rows.fnWorldKeepsRow=true :=
  (show joinedFacts Tryz.pinned.checked.prog 6 Tryz.f6 (OpenSpec.ofChange Rows.fnWorldKeepsSpec).bare Rows.fnWorldKeepsRow=joinedFacts Tryz.prog 6 Tryz.f6 Rows.fnWorldKeepsSpec Rows.fnWorldKeepsRow by kernel_rfl).trans closed0
theorem door_met (os:Os) (args:Array Value):laidMetH Tryz.prog Rows.fnWorldKeepsRow.laid ((World.doorLaid Tryz.prog 400 os).forCall (fun _ _=>0) ⟨#[],args,[]⟩).memory :=
  laidMetH_of_parts3 (fuel:=8) (laidMet_of_run' 8 (by kernel_rfl) (by kernel_rfl)) (by kernel_rfl) (by kernel_rfl)
theorem reads (os:Os) {H:Type} (enc:TypeId × Value→H):∃ places,DataW.whole enc Tryz.prog ((World.doorLaid Tryz.prog 400 os).forCall (fun _ _=>0) ⟨#[],#[.slice none 0 0,.slice none 0 0],[]⟩).memory Tryz.f6.params.toList Rows.fnWorldKeepsSpec.vars false #[Value.slice none 0 0,Value.slice none 0 0].toList 8=some ([.nil,.nil],[],places) :=
  ⟨[],by kernel_rfl⟩
set_option maxRecDepth 100000 in
theorem lifted (os:Os) (started:os.Started) (H:Type) (enc:TypeId × Value→H) (F:Stop.Interp) :
    ReturnsInHanded {} Tryz.checked os 6 .any ((OpenSpec.ofChange Rows.fnWorldKeepsSpec).preRow enc Tryz.prog Tryz.f6 Rows.fnWorldKeepsRow.domain false Rows.fnWorldKeepsRow.laid) (((OpenSpec.ofChange Rows.fnWorldKeepsSpec).at F).post enc Tryz.prog Tryz.f6 false true false false):=by
  obtain ⟨places,hx⟩:=reads os enc
  refine returnsInHanded_of_row (C:=Tryz.checked) (s:=OpenSpec.ofChange Rows.fnWorldKeepsSpec) own started (by kernel_rfl) Tryz.func6
    (witness_row_atRef (enc:=enc) (C:=Tryz.checked) false (World.doorLaid Tryz.prog 400 os) #[.slice none 0 0,.slice none 0 0] rfl (by kernel_rfl) (by kernel_rfl) (by kernel_rfl)
      (OpenSpec.preRow_of_cond 8 hx (by kernel_rfl) (fun k hk=>by cases hk) (by kernel_rfl) (door_met os _))) ?_
  intro W base args ds gs before hval hW _ _ _ hL hs _
  exact contract H enc W base args ds gs before hval hW hL hs
theorem said:Rows.FnWorldKeepsSaid :=
  OpenClaim.holds_of_cond 6 Tryz.f6 rfl rfl rfl rfl rfl rfl rfl ⟨rfl,rfl,rfl,rfl,rfl⟩ rfl rfl rfl rfl rfl (by kernel_rfl) Tryz.func6 closed
    (of_decide_eq_true (by kernel_rfl)) (by unfold Func.isWrapper;first|(rw [if_pos (by decide +kernel)];kernel_rfl)|(rw [if_neg (by decide +kernel)];exact ⟨rfl,rfl⟩))
    (fun os started H enc _ F=>by rw [OpenClaim.pre_eq_preRow];exact lifted os started H enc F)
theorem plain (f:FuncId) (fn:Func) (hf:Tryz.pinned.checked.prog.funcNamed "loop.example/ostiary/laws.FnWorldKeeps"=some f) (hfn:Tryz.pinned.checked.prog.funcs[f]?=some fn) :
    true=Tryz.pinned.checked.prog.looks []∧∀ (j:Nat) t,fn.params[j]?=some t→Tryz.pinned.checked.prog.wantsStandIn t=false:=by
  obtain rfl:f=6:=Option.some.inj ((show Tryz.prog.funcNamed "loop.example/ostiary/laws.FnWorldKeeps"=some 6 by kernel_rfl).symm.trans hf) |>.symm
  obtain rfl:fn=Tryz.f6:=(Option.some.inj (Tryz.func6.symm.trans hfn)).symm
  refine ⟨by kernel_rfl,fun j t ht=>?_⟩
  rw [Tryz.params6] at ht
  obtain rfl:t=22:=by simpa using Array.mem_of_getElem? ht
  exact (show Tryz.prog.wantsStandIn 22=false by kernel_rfl)
theorem card:Rows.FnWorldKeepsCardSaid :=
  Claim7.holds_tied_plain_at .later [] _ _ _ _ said (fun _ h=>by cases h) (by kernel_rfl) (fun _ h=>by cases h) fnWorldKeeps_row_tie rfl ⟨rfl,rfl⟩ (by kernel_rfl) rfl plain (by kernel_rfl)
end Go.Proofs.YtgganfobejnfaaaGreatDoor.fnWorldKeeps
