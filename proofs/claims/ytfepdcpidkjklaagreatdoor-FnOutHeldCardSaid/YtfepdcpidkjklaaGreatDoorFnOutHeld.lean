/- FnOutHeld: a name in two packets goes out whole. Conditions: those of the row alone. -/
import Derived.Test.YtfepdcpidkjklaaGreatDoorX07
import Derived.Test.YtfepdcpidkjklaaGreatDoorX04
import Derived.Test.YtfepdcpidkjklaaGreatDoorCards
import Derived.Test.YtfepdcpidkjklaaGreatDoorTie
set_option linter.all false
namespace Go.Proofs.YtfepdcpidkjklaaGreatDoor.W
open Go Go.RowKit Go.Proofs Go.Proofs.YtfepdcpidkjklaaGreatDoor.VL Go.Proofs.YtfepdcpidkjklaaGreatDoor.M
attribute [local congr] optK_congr guardK_congr condK_congr runT_congr runD_congr wpI_congr CallV_congr LoopI_congr pureK_congr effK_congr calK_congr stepV_congr doV_congr exN_congr exB_congr retF_congr retQ_congr gK_congr condW_congr ldK_congr stoK_congr
attribute [local go_sem] argL_cons argL_nil argH_nil argH_cons chH_getH wpI_seq wpI_reg wpI_drw wpI_ret cond_k condW_t condW_f wpI_skip wpI_block wpI_exit wpI_loop exN_n exN_r exN_e exB_n exB_r exB_h exB_m runT_k kT_e runT_nil runD_k kD_e runD_nil step_u step_k gK_t gK_f do_mv do_bino bo_add bo_sub bo_mul bo_subu bo_quo bo_rem bo_xor bo_eql bo_neq bo_lss bo_leq bo_gtr bo_geq bo_cat bo_eqs bo_nes do_pick do_call do_cal calK_f do_box do_alloc do_ldk ldK_s do_stok stoK_s do_fad do_nilc do_not do_neg do_len do_lens do_ext do_eqs do_beq do_isn do_cvi do_sls do_idx do_mn do_mx do_build do_mkf do_s2b do_b2s do_slv do_iad do_bsl do_mks do_app ev_t ev_c app_some app_none
attribute [local go_sem] List.nil_append List.cons_append List.append_nil getL_hit getL_miss getH_nil getH_hit getH_miss nm_eq ne_eq Nat.reduceEqDiff not_false_eq_true Nat.reduceAdd Nat.add_zero Nat.zero_add if_true if_false ite_true ite_false pureK_s effK_s optK_s gdV_t gdV_f gdV_s pick_b ge_iff_le gt_iff_lt cond_true cond_false fresh_k cells_agg cells_int cells_bool cells_str cells_own cells_sl cells_nils ld_pv ld_pa ld_ip ldVar_t ldVar_f ldArr_t ldArr_f ldRow_t ldRow_f ldA_s ld1_s fad_pv fad_pa fad_ip nilc_pv nilc_pa nilc_ip not_b neg_i cvi_i ext_t retF_n retF_r
attribute [local go_sem] resV_k rvs_nil rvs_t rvs_c fstO_s consO_s resK_s resL_1 resL_2 resL_3 resL_4  Option.some.injEq List.map_cons List.map_nil List.all_cons List.all_nil Bool.and_true Bool.and_self Bool.not_true Bool.not_false Option.map_some Option.map_none sls_s slsG_s loV_n loV_i hiV_n hiV_i idx_s mn_i mx_i s2b_s b2s_s bytO_s bytes_nil bytes_cons conB_s slv_sl slv_own slv_nils slvG_s slvN_s slvO_s iad_sl iadG_map take_map drop_map List.length_map iad_own iad_view iadO_a iadW_a mks_i rowO_nils rowO_sl rowO_own rowA_a eq_self appG_nils appG_own appO_a guardP_T mapA_s bld_nil mkf_nil bldF_e fill_nil fill_cons mkf_e lens_s len_nils len_sl len_own len_view isn_nile isn_erre List.getElem?_cons_zero List.getElem?_cons_succ List.length_cons List.length_nil decide_true decide_false Int.toNat_natCast Int.cast_ofNat_Int Int.reduceLT Int.reduceLE Int.reduceEq Int.reduceAdd Int.reduceSub Int.reduceMul Int.reduceNeg Int.reduceToNat List.getD_cons_zero List.getD_cons_succ not_true_eq_false not_false_eq_true Bool.false_eq_true Bool.true_eq_false reduceCtorEq
attribute [local go_sem] E.row Pc.row Pair.row Part.row Strm.row Flw.row Pk.row Door.row Conv.row World.row Ev.row rdV E.eta Pc.eta Pair.eta Part.eta Strm.eta Pk.eta Flw.eta Conv.eta Door.eta World.eta Ev.eta
attribute [local go_sem] sub_ok st_pv st_pa stVar_v stArr_a Nat.le_refl List.drop_zero List.drop_succ_cons List.take_succ_cons List.take_zero setR Nat.reduceLeDiff
attribute [local go_sem] wk_bot wk2_bot wk1_bot wk_undef wk_tup_e wk2_agg_e wk_agg_e wk1_fn_e wk2_fn_e wk_fn_e wkl_nil wkl_cons wkh_var_e wkh_arr_e wkh_fresh_e wkh_dead_v wkh_dead_a wkh_dead_d wk0_undef wk0_int wk0_bool wk0_str wk0_nils wk0_nils_sl wk0_nilp wk0_nile wk0_erre wk0_sl wk0_iptr wk0_own wk0_view wk0_pv wk0_pa fzA_a fzW_a fzP_v wk0_own_sl wk0_view_sl wk0_pv_iptr WkS_nil WkS_cons WkN_nil WkN_cons nonB_nil nonB_cons getN_nil getN_hit getN_miss pinOk_0 pinOk_s and_true true_and and_self
attribute [local go_sem] bot_int one_int unt_int clo_int bot_bool one_bool unt_bool clo_bool bot_str one_str unt_str clo_str bot_nils one_nils unt_nils clo_nils bot_nilp one_nilp unt_nilp clo_nilp bot_nile one_nile unt_nile clo_nile bot_erre one_erre unt_erre clo_erre bot_raw one_raw unt_raw clo_raw bot_sl one_sl unt_sl clo_sl bot_own one_own unt_own clo_own bot_view one_view unt_view clo_view bot_pv one_pv unt_pv clo_pv bot_pa one_pa unt_pa clo_pa bot_iptr one_iptr unt_iptr clo_iptr unt_agg unt_fn one_fn
attribute [local go_sem] rn_tup rn_agg rn2_agg rn_fn rn2_fn rnfn1 rn_bot rn2_bot rn1_bot rn0_int rn0_bool rn0_str rn0_nils rn0_nilp rn0_nile rn0_erre rn0_sl rn0_iptr rn0_own rn0_view rn0_pv rn0_pa hrn_var hrn_arr hrn_dead outU_nil outU_cons deads_nil deads_cons bk_ge bk_lt nsF_0 nsF_s chH_0 chH_s chH_n newN_e andB_s eqR_nil eqR_i eqR_b eqR_s mapX_f mapX_t eqs_a beq_f beq_t live_arr live_var nsl_nil nsl_cons Nat.reduceMul Nat.reduceLT Nat.zero_le Nat.not_lt_zero
attribute [local go_sem] mV lD lA fD bN eX oP nP sR i0 s0
def ic8:IC:=sR [oP 2 (.mv (.c (.bool false)))] (.seq (sR [mV 20 0,oP 21 (.len (.t 20)),oP 22 (.bin .gtr (.t 21) (.c (.int .i64 1048576)))] (.cond (.t 22) (sR [oP 2 (.mv (.c (.bool true)))] .ret) .skip)) (sR [mV 24 0,oP 25 (.call 16 [.t 24]),mV 23 25,eX 26 23 0,eX 27 23 1,oP 3 (.alloc 26 [.nils,.nils]),oP 4 (.alloc 30 [i0,i0,i0,i0,i0,i0,s0]),nP (.sto 2 (.t 3) (.t 26)),nP (.sto 7 (.t 4) (.t 27))] (sR [lA 29 2 3,lA 30 7 4,oP 31 (.call 17 [.t 29,.t 30]),mV 28 31,eX 32 28 0,eX 33 28 1,eX 34 28 2,oP 5 (.alloc 26 [.nils,.nils]),oP 6 (.alloc 30 [i0,i0,i0,i0,i0,i0,s0]),nP (.sto 2 (.t 5) (.t 32)),nP (.sto 7 (.t 6) (.t 33)),mV 7 34] (sR [lA 36 2 3,lA 37 7 4,oP 38 (.call 18 [.t 36,.t 37]),mV 35 38,eX 39 35 0,eX 40 35 1,eX 41 35 2,oP 8 (.alloc 26 [.nils,.nils]),oP 9 (.alloc 30 [i0,i0,i0,i0,i0,i0,s0]),nP (.sto 2 (.t 8) (.t 39)),nP (.sto 7 (.t 9) (.t 40)),mV 10 41] (.seq (sR [mV 42 10,mV 43 7,oP 44 (.beq true (.t 42) (.t 43)),mV 45 44,⟨some 46,some (45,false),.ld 7 true (.t 9)⟩,⟨some 47,some (45,false),.ld 7 true (.t 6)⟩,⟨some 48,some (45,false),.eqs true [.i,.i,.i,.i,.i,.i,.s] (.t 46) (.t 47)⟩,oP 49 (.pick (.t 45) (.c (.bool true)) (.t 48)),mV 50 49,⟨some 51,some (50,false),.ld 2 true (.t 8)⟩,⟨some 52,some (50,false),.ld 2 true (.t 5)⟩,⟨some 53,some (50,false),.call 19 [.t 51,.t 52]⟩,⟨some 54,some (50,false),.un .not (.t 53)⟩,oP 55 (.pick (.t 50) (.c (.bool true)) (.t 54)),mV 56 55,⟨some 57,some (56,false),.mv (.t 10)⟩,⟨some 58,some (56,false),.un .not (.t 57)⟩,oP 59 (.pick (.t 56) (.c (.bool true)) (.t 58)),mV 60 59,⟨some 61,some (60,false),.fad 0 (.t 4)⟩,⟨some 62,some (60,false),.ld 1 false (.t 61)⟩,⟨some 63,some (60,false),.bin .neq (.t 62) (.c (.int .i64 1))⟩,oP 64 (.pick (.t 60) (.c (.bool true)) (.t 63))] (.cond (.t 64) (sR [mV 65 10,mV 66 7,oP 67 (.beq false (.t 65) (.t 66)),mV 68 67,⟨some 69,some (68,true),.ld 7 true (.t 9)⟩,⟨some 70,some (68,true),.ld 7 true (.t 6)⟩,⟨some 71,some (68,true),.eqs false [.i,.i,.i,.i,.i,.i,.s] (.t 69) (.t 70)⟩,oP 72 (.pick (.t 68) (.t 71) (.c (.bool false))),mV 73 72,⟨some 74,some (73,true),.ld 2 true (.t 8)⟩,⟨some 75,some (73,true),.ld 2 true (.t 5)⟩,⟨some 76,some (73,true),.call 19 [.t 74,.t 75]⟩,oP 77 (.pick (.t 73) (.t 76) (.c (.bool false))),mV 2 77] .ret) .skip)) (sR [lA 79 2 8,fD 80 1 4,lA 81 2 80,fD 82 3 4,lA 83 2 82,oP 84 (.call 29 [.t 79,.t 81,.t 83]),mV 78 84,eX 85 78 0,eX 86 78 1,oP 11 (.alloc 46 [i0,i0,i0,i0,s0,.nils,s0,.nils]),nP (.sto 8 (.t 11) (.t 85)),mV 12 86] (sR [fD 87 4 11,fD 88 0 87,lD 89 1 88,oP 90 (.lens (.t 89)),mV 13 90] (.seq (sR [mV 91 13,oP 92 (.bin .add (.t 91) (.c (.int .i64 5))),oP 93 (.bin .gtr (.t 92) (.c (.int .i64 40)))] (.cond (.t 93) (sR [oP 2 (.mv (.c (.bool true)))] .ret) .skip)) (sR [lA 95 2 8,fD 96 1 4,lA 97 2 96,fD 98 3 4,lA 99 2 98,mV 100 13,oP 101 (.build [i0,i0,i0,i0,i0,i0,s0] [(0,(1,.c (.int .i64 1))),(1,(2,.t 97)),(3,(2,.t 99)),(5,(1,.t 100)),(6,(1,.c (.str [64,50,58,54])))]),oP 102 (.call 18 [.t 95,.t 101]),mV 94 102,eX 103 94 0,eX 104 94 1,eX 105 94 2,oP 14 (.alloc 26 [.nils,.nils]),oP 15 (.alloc 30 [i0,i0,i0,i0,i0,i0,s0]),nP (.sto 2 (.t 14) (.t 103)),nP (.sto 7 (.t 15) (.t 104)),mV 16 105] (.seq (sR [fD 106 4 11,fD 107 0 106,lD 108 1 107,oP 109 (.call 36 [.t 108]),oP 110 (.bin .gtr (.t 109) (.c i0))] (.cond (.t 110) (sR [oP 2 (.mv (.c (.bool true)))] .ret) .skip)) (sR [lA 112 2 14,fD 113 1 4,lA 114 2 113,fD 115 3 4,lA 116 2 115,mV 117 13,oP 118 (.bin .add (.t 117) (.c (.int .i64 4))),oP 119 (.build [i0,i0,i0,i0,i0,i0,s0] [(0,(1,.c (.int .i64 1))),(1,(2,.t 114)),(3,(2,.t 116)),(5,(1,.t 118)),(6,(1,.c (.str [59])))]),oP 120 (.call 18 [.t 112,.t 119]),mV 111 120,eX 121 111 0,eX 122 111 1,eX 123 111 2,oP 17 (.alloc 26 [.nils,.nils]),oP 18 (.alloc 30 [i0,i0,i0,i0,i0,i0,s0]),nP (.sto 2 (.t 17) (.t 121)),nP (.sto 7 (.t 18) (.t 122)),mV 19 123] (.seq (.drw [0,1,3,7,15,31,63,127,63,319,831,1855,4095,8191,16383,32767,65535,131071,262143,524287,1048575,2097151,4194303,8388607,16777215,33554431,67108863,134217727,268435455,536870911,1073741823] [(0,mV 124 16),(1,oP 125 (.un .not (.t 124))),(2,mV 126 125),(3,⟨some 127,some (126,true),.mv (.t 19)⟩),(4,oP 128 (.pick (.t 126) (.t 127) (.c (.bool false)))),(5,mV 129 128),(6,⟨some 130,some (129,true),.fad 5 (.t 18)⟩),(7,⟨some 131,some (129,true),.ld 1 false (.t 130)⟩),(8,⟨some 132,some (129,true),.fad 4 (.t 11)⟩),(9,⟨some 133,some (129,true),.ld 2 true (.t 132)⟩),(10,⟨some 134,some (129,true),.call 32 [.t 133]⟩),(11,⟨some 135,some (129,true),.lens (.t 134)⟩),(12,⟨some 136,some (129,true),.bin .eql (.t 131) (.t 135)⟩),(13,oP 137 (.pick (.t 129) (.t 136) (.c (.bool false)))),(14,mV 138 137),(15,⟨some 139,some (138,true),.fad 6 (.t 18)⟩),(16,⟨some 140,some (138,true),.ld 1 false (.t 139)⟩),(17,⟨some 141,some (138,true),.lens (.t 140)⟩),(18,⟨some 142,some (138,true),.bin .geq (.t 141) (.c (.int .i64 5))⟩),(19,oP 143 (.pick (.t 138) (.t 142) (.c (.bool false)))),(20,mV 144 143),(21,⟨some 145,some (144,true),.fad 6 (.t 18)⟩),(22,⟨some 146,some (144,true),.ld 1 false (.t 145)⟩),(23,⟨some 147,some (144,true),.idx (.t 146) (.c i0)⟩),(24,⟨some 148,some (144,true),.bin .eql (.t 147) (.c (.int .u8 64))⟩),(25,oP 149 (.pick (.t 144) (.t 148) (.c (.bool false)))),(26,mV 150 149),(27,⟨some 151,some (150,true),.ld 2 true (.t 17)⟩),(28,⟨some 152,some (150,true),.call 20 [.t 151]⟩),(29,oP 153 (.pick (.t 150) (.t 152) (.c (.bool false)))),(30,mV 2 153)]) .ret))))))))))))
theorem dg8:Dg Tryz.prog 8 Tryz.f8 ic8 [(.t 2)]:=⟨Tryz.func8,by kernel_rfl,by kernel_rfl⟩
theorem c8 (code:B):FnR Tryz.prog G 8 [.sl 1 (code.map byR)] (.bool true):=by
  refine mF dg8 Tryz.ntmps8 ?_
  simp only [ic8,go_sem]
  by_cases hc:(1048576:Int)<code.length
  · simp only [eq_true hc,go_sem]
  simp only [eq_false hc,go_sem]
  refine callO (c16 code (by omega)) [] 25 0 (by simp only [go_sem];first|done|simp) (by simp) (by rintro _ _ ⟨_,_,_,_,_,rfl⟩;simp) (by intro i hi;omega) ?_
  rintro _ _ ⟨d,p,⟨hb,hl3,hq⟩,hpl,rfl,rfl⟩
  simp only [go_sem]
  have f1:=c17 d p hb (fun _=>hl3) (by omega)
  have f2:=c18 d p hb (by omega)
  have xb:=doorOut_db d p
  have hyes:=fun r (h:(doorOut d p).2=some r)=>doorOut_yes h
  obtain ⟨⟨x,o⟩,hx⟩:∃ y,doorOut d p=y:=⟨_,rfl⟩
  rw [hx] at f1 f2 xb hyes
  have f3:=l19 x xb
  simp only at f1 f2 f3 hyes xb
  cases o with
  | none =>
    simp only [Option.getD_none,Option.isSome_none] at f1 f2
    with_reducible repeat' (first|refine br ?_ ?_<;>intro h e<;>(try simp only [e,go_sem,dff])<;>clear e|rw [i64w (by omega)]|refine sd ?_<;>try simp only [go_sem,dff]|(first|refine cr (f1 ..) ?_|refine cr (f2 ..) ?_|refine cr (f3 ..) ?_)<;>try simp only [go_sem,dff]|fail)
  | some r =>
    obtain ⟨hd,hp,ho,hdx,hdo⟩:=hyes r rfl
    simp only [Option.getD_some,Option.isSome_some] at f1 f2
    by_cases hk:p.kind=1
    rotate_left
    · with_reducible repeat' (first|refine br ?_ ?_<;>intro h e<;>(try simp only [e,go_sem,dtt,hk])<;>clear e|rw [i64w (by omega)]|refine sd ?_<;>try simp only [go_sem,dtt,hk]|(first|refine cr (f1 ..) ?_|refine cr (f2 ..) ?_|refine cr (f3 ..) ?_)<;>try simp only [go_sem,dtt,hk]|fail)
    obtain ⟨g,g1,g2,g3,_,g5⟩:=law_outHeld hd hp ho hdo
    have hg:((flowIx x.flows p.frm p.to).bind fun k=>x.flows[k]?)=some g:=g1
    have f4:=c29 x p.frm p.to xb.2.1
    rw [hg] at f4
    simp only [Option.getD_some] at f4
    simp only [hk] at f1 f2 ⊢
    have w1:IntKind.i64.wrap ((g.up.inn.length:Int)+5)=g.up.inn.length+5:=i64w (by omega)
    have w2:IntKind.i64.wrap ((g.up.inn.length:Int)+4)=g.up.inn.length+4:=i64w (by omega)
    by_cases hl:(40:Int)<(g.up.inn.length:Int)+5
    · with_reducible repeat' (first|refine br ?_ ?_<;>intro h e<;>(try simp only [e,go_sem,dtt,w1,hl])<;>clear e|rw [i64w (by omega)]|refine sd ?_<;>try simp only [go_sem,dtt,w1,hl]|(first|refine cr (f1 ..) ?_|refine cr (f2 ..) ?_|refine cr (f3 ..) ?_|refine cr (f4 ..) ?_)<;>try simp only [go_sem,dtt,w1,hl]|fail)
      all_goals first|done|omega|trace_state
    have f5:=c18 x ⟨1,p.frm,p.to,g.up.inn.length,[64,50,58,54]⟩ xb (by simp)
    have f6:=c36 g.up.inn (by omega)
    have hth:textHeld g.up.inn=held g.up.inn:=by
      unfold textHeld
      have:txOk g.up.inn=true:=by have:=g2;simp only [strmOk,Bool.and_eq_true] at this;exact this.1
      rw [if_pos this]
    rw [hth] at f6
    have hyb:=doorOut_db x ⟨1,p.frm,p.to,g.up.inn.length,[64,50,58,54]⟩
    by_cases hh:held g.up.inn=0
    rotate_left
    · generalize doorOut x ⟨1,p.frm,p.to,g.up.inn.length,[64,50,58,54]⟩=y at *
      have hh2:(0:Int)<(held g.up.inn:Int):=by omega
      with_reducible repeat' (first|refine br ?_ ?_<;>intro h e<;>(try simp only [e,go_sem,dtt,w1,hh2])<;>clear e|rw [i64w (by omega)]|refine sd ?_<;>try simp only [go_sem,dtt,w1,hh2]|(first|refine cr (f1 ..) ?_|refine cr (f2 ..) ?_|refine cr (f3 ..) ?_|refine cr (f4 ..) ?_|refine cr (f5 ..) ?_|refine cr (f6 ..) ?_)<;>try simp only [go_sem,dtt,w1,hh2]|fail)
      all_goals first|done|omega|trace_state
    obtain ⟨y,y1,z,s,z1,z2,⟨t,z3,z4,z5⟩,z6⟩:=g5 (by omega) hh
    rw [y1] at f5 hyb
    have f7:=c18 y ⟨1,p.frm,p.to,(g.up.inn.length:Int)+4,[59]⟩ hyb (by simp)
    rw [z1] at f7
    have f8:=c32 g.up g2
    have f9:=c20 z (ok_db z6)
    rw [z6] at f9
    rw [hh] at f6
    obtain ⟨sk,sf,st,sa,sx⟩:=s
    simp only at z2 z3
    subst z2 z3
    have hge:(5:Int)≤((64 :: t).length:Nat):=by simp;omega
    simp only [Option.getD_some,Option.isSome_some,Option.getD_none,Option.isSome_none] at f5 f7
    have h64:(((64:UInt8).toNat:Nat):Int)=64:=by decide
    with_reducible repeat' (first|refine br ?_ ?_<;>intro h e<;>(try simp only [e,go_sem,dtt,w1,w2,h64])<;>clear e|rw [i64w (by omega)]|refine sd ?_<;>try simp only [go_sem,dtt,w1,w2,h64]|(first|refine cr (f1 ..) ?_|refine cr (f2 ..) ?_|refine cr (f3 ..) ?_|refine cr (f4 ..) ?_|refine cr (f5 ..) ?_|refine cr (f6 ..) ?_|refine cr (f7 ..) ?_|refine cr (f8 ..) ?_|refine cr (f9 ..) ?_)<;>try simp only [go_sem,dtt,w1,w2,h64]|fail)
    all_goals first|done|omega|(simp_all;done)|trace_state
end Go.Proofs.YtfepdcpidkjklaaGreatDoor.W
namespace Go.Proofs.YtfepdcpidkjklaaGreatDoor.fnOutHeld
open Go Go.ChangeShapes Go.WideShapes Go.ChangeAt Go.RowKit Go.Proofs.YtfepdcpidkjklaaGreatDoor.W
theorem walk (v0:Value) (W:World) (hs:W.ShapedOpen Tryz.prog) (hL:laidMetH Tryz.prog Rows.fnOutHeldRow.laid W) (hv0:∃ code:M.B,VL.Den W noO noρ noH (.sl 1 (code.map M.byR)) v0) :
    Calls Tryz.prog 8 #[v0] W fun e W'=>e=.returned (.bool true)∧Below W.heap.size W W':=by
  obtain ⟨code,hdv0⟩:=hv0
  have:=Go.Proofs.YtfepdcpidkjklaaGreatDoor.W.FnR.calls (c8 code) (us:=[v0]) (gOk rfl hL hs) ⟨rfl,fun j a b ha hb=>by
    match j,ha,hb with
    | 0,ha,hb=>cases ha;cases hb;exact hdv0
    | j+1,ha,hb=>simp at ha⟩
  exact this
set_option maxRecDepth 100000 in
theorem contract (H:Type) (enc:TypeId × Value→H) (W:World) (base:Nat) (args:Array Value) (ds gs:List (DataW H)) (before:List MemPlace)
    (hval:∀ (j:Nat) t v,Tryz.f8.params[j]?=some t→args[j]?=some v→Value.okWide Tryz.prog W .any base t v)
    (hW:DataW.Whole enc Tryz.prog Tryz.f8.params.toList Rows.fnOutHeldSpec.vars false W args.toList ds gs before) (hL:laidMetH Tryz.prog Rows.fnOutHeldRow.laid W) (hs:W.ShapedOpen Tryz.prog) :
    Calls Tryz.prog 8 args W fun e W'=>∃ v,e=.returned v∧Rows.fnOutHeldSpec.post enc Tryz.prog Tryz.f8 false true false false W args v W':=by
  have hW':=hW
  obtain ⟨p,q,hA0,hV,rfl,hfz,hnd⟩:=hW
  have hA:DataW.TrodAll enc Tryz.prog W 0 (fun _=>true) true Tryz.f8.params.toList args.toList ds p:=hA0
  rw [Tryz.params8] at hA hval
  obtain ⟨v0,r0s,d0,d0s,p0,q0,hargs0,rfl,rfl,h0,r0⟩:=trodAll_cons hA
  obtain ⟨e1,e2,e3⟩:=trodAll_nil r0
  subst e1 e2 e3
  obtain rfl:args=#[v0]:=by cases args;simp_all
  obtain ⟨rfl,rfl⟩:=trodVars_none hV
  obtain ⟨a0,len0,cap0,hv0⟩:=okWide_slice Tryz.underlying22 (hval 0 22 v0 rfl rfl)
  have k0:=h0
  have lt0:∀ x∈p0,x.block<W.heap.size:=by obtain ⟨m,hm⟩:=k0;exact DataW.trod_lt m _ _ _ hm
  have hc0:=open_code h0 ⟨a0,len0,cap0,hv0⟩
  clear hA0
  refine (walk v0 W hs hL hc0).mono fun e W' ⟨he,bel⟩=>?_
  subst he
  exact ⟨_,rfl,_,_,_,[],_,[],hW',trodAll_mk1 (shut_bool Tryz.underlying4 _),(trodAll_cons_mk (Below.trod laidOut (by kernel_rfl) (of_decide_eq_true (by kernel_rfl)) k0 bel lt0) trodAll_mk0),rfl,bel.frame _,fun h=>by cases h⟩
theorem inP:(Rows.fnOutHeldRow.inPlace == Tryz.prog.inPlace 8)=true:=by kernel_rfl
theorem unf:(Rows.fnOutHeldRow.unfollowed == Tryz.prog.unfollowed 8)=true:=by kernel_rfl
theorem rcs:(Rows.fnOutHeldRow.recurses == Tryz.prog.recurses 8)=true:=by kernel_rfl
theorem nam:(Rows.fnOutHeldRow.named == Tryz.prog.varsNamed 8)=true:=by kernel_rfl
theorem lif:(Rows.fnOutHeldRow.lifted == Tryz.prog.liftsFinal)=true:=lifF
theorem pke:(Rows.fnOutHeldRow.plainKeys == Tryz.prog.plainKeys)=true:=pkeF
theorem mak:(Tryz.prog.make == some Rows.fnOutHeldRow.make)=true:=makF
theorem closed0:joinedFacts Tryz.prog 8 Tryz.f8 Rows.fnOutHeldSpec Rows.fnOutHeldRow=true:=by
  unfold joinedFacts
  rw [laidOut,mapF,inP,unf,rcs,nam,pke,stoF,mayF,lif,mak]
  kernel_rfl
theorem closed:joinedFacts Tryz.pinned.checked.prog 8 Tryz.f8 (OpenSpec.ofChange Rows.fnOutHeldSpec).bare Rows.fnOutHeldRow=true :=
  (show joinedFacts Tryz.pinned.checked.prog 8 Tryz.f8 (OpenSpec.ofChange Rows.fnOutHeldSpec).bare Rows.fnOutHeldRow=joinedFacts Tryz.prog 8 Tryz.f8 Rows.fnOutHeldSpec Rows.fnOutHeldRow by kernel_rfl).trans closed0
theorem door_met (os:Os) (args:Array Value):laidMetH Tryz.prog Rows.fnOutHeldRow.laid ((World.doorLaid Tryz.prog 400 os).forCall (fun _ _=>0) ⟨#[],args,[]⟩).memory :=
  laidMetH_of_parts3 (fuel:=8) (laidMet_of_run' 8 (by kernel_rfl) (by kernel_rfl)) (by kernel_rfl) (by kernel_rfl)
theorem reads (os:Os) {H:Type} (enc:TypeId × Value→H):∃ places,DataW.whole enc Tryz.prog ((World.doorLaid Tryz.prog 400 os).forCall (fun _ _=>0) ⟨#[],#[.slice none 0 0],[]⟩).memory Tryz.f8.params.toList Rows.fnOutHeldSpec.vars false #[Value.slice none 0 0].toList 8=some ([.nil],[],places) :=
  ⟨[],by kernel_rfl⟩
set_option maxRecDepth 100000 in
theorem lifted (os:Os) (started:os.Started) (H:Type) (enc:TypeId × Value→H) (F:Stop.Interp) :
    ReturnsInHanded {} Tryz.checked os 8 .any ((OpenSpec.ofChange Rows.fnOutHeldSpec).preRow enc Tryz.prog Tryz.f8 Rows.fnOutHeldRow.domain false Rows.fnOutHeldRow.laid) (((OpenSpec.ofChange Rows.fnOutHeldSpec).at F).post enc Tryz.prog Tryz.f8 false true false false):=by
  obtain ⟨places,hx⟩:=reads os enc
  refine returnsInHanded_of_row (C:=Tryz.checked) (s:=OpenSpec.ofChange Rows.fnOutHeldSpec) own started (by kernel_rfl) Tryz.func8
    (witness_row_atRef (enc:=enc) (C:=Tryz.checked) false (World.doorLaid Tryz.prog 400 os) #[.slice none 0 0] rfl (by kernel_rfl) (by kernel_rfl) (by kernel_rfl)
      (OpenSpec.preRow_of_cond 8 hx (by kernel_rfl) (fun k hk=>by cases hk) (by kernel_rfl) (door_met os _))) ?_
  intro W base args ds gs before hval hW _ _ _ hL hs _
  exact contract H enc W base args ds gs before hval hW hL hs
theorem said:Rows.FnOutHeldSaid :=
  OpenClaim.holds_of_cond 8 Tryz.f8 rfl rfl rfl rfl rfl rfl rfl ⟨rfl,rfl,rfl,rfl,rfl⟩ rfl rfl rfl rfl rfl (by kernel_rfl) Tryz.func8 closed
    (of_decide_eq_true (by kernel_rfl)) (by unfold Func.isWrapper;first|(rw [if_pos (by decide +kernel)];kernel_rfl)|(rw [if_neg (by decide +kernel)];exact ⟨rfl,rfl⟩))
    (fun os started H enc _ F=>by rw [OpenClaim.pre_eq_preRow];exact lifted os started H enc F)
theorem plain (f:FuncId) (fn:Func) (hf:Tryz.pinned.checked.prog.funcNamed "loop.example/ostiary/laws.FnOutHeld"=some f) (hfn:Tryz.pinned.checked.prog.funcs[f]?=some fn) :
    true=Tryz.pinned.checked.prog.looks []∧∀ (j:Nat) t,fn.params[j]?=some t→Tryz.pinned.checked.prog.wantsStandIn t=false:=by
  obtain rfl:f=8:=Option.some.inj ((show Tryz.prog.funcNamed "loop.example/ostiary/laws.FnOutHeld"=some 8 by kernel_rfl).symm.trans hf) |>.symm
  obtain rfl:fn=Tryz.f8:=(Option.some.inj (Tryz.func8.symm.trans hfn)).symm
  refine ⟨by kernel_rfl,fun j t ht=>?_⟩
  rw [Tryz.params8] at ht
  obtain rfl:t=22:=by simpa using Array.mem_of_getElem? ht
  exact (show Tryz.prog.wantsStandIn 22=false by kernel_rfl)
theorem card:Rows.FnOutHeldCardSaid :=
  Claim7.holds_tied_plain_at .later [] _ _ _ _ said (fun _ h=>by cases h) (by kernel_rfl) (fun _ h=>by cases h) fnOutHeld_row_tie rfl ⟨rfl,rfl⟩ (by kernel_rfl) rfl plain (by kernel_rfl)
end Go.Proofs.YtfepdcpidkjklaaGreatDoor.fnOutHeld
