/- FnOutText: what goes out is part of its stream, in place. Conditions: those of the row alone. -/
import Derived.Test.YtfepdcpidkjklaaGreatDoorX07
import Derived.Test.YtfepdcpidkjklaaGreatDoorX04
import Derived.Test.YtfepdcpidkjklaaGreatDoorCards
import Derived.Test.YtfepdcpidkjklaaGreatDoorTie
set_option linter.all false
namespace Go.Proofs.YtfepdcpidkjklaaGreatDoor.W
open Go Go.RowKit Go.Proofs Go.Proofs.YtfepdcpidkjklaaGreatDoor.VL Go.Proofs.YtfepdcpidkjklaaGreatDoor.M
attribute [local congr] optK_congr guardK_congr condK_congr runT_congr runD_congr wpI_congr CallV_congr LoopI_congr pureK_congr effK_congr calK_congr stepV_congr doV_congr exN_congr exB_congr retF_congr retQ_congr gK_congr condW_congr ldK_congr stoK_congr
attribute [local go_sem] argL_cons argL_nil argH_nil argH_cons chH_getH wpI_seq wpI_reg wpI_drw wpI_ret cond_k condW_t condW_f wpI_skip wpI_block wpI_exit wpI_loop exN_n exN_r exN_e exB_n exB_r exB_h exB_m runT_k kT_e runT_nil runD_k kD_e runD_nil step_u step_k gK_t gK_f do_mv do_bino bo_add bo_sub bo_mul bo_subu bo_quo bo_rem bo_xor bo_eql bo_neq bo_lss bo_leq bo_gtr bo_geq bo_cat bo_eqs bo_nes do_pick do_call do_cal calK_f do_box do_alloc do_ldk ldK_s do_stok stoK_s do_fad do_nilc do_not do_neg do_len do_lens do_ext do_eqs do_beq do_isn do_cvi do_sls do_idx do_mn do_mx do_build do_mkf do_s2b do_b2s do_slv do_iad do_bsl do_mks do_app ev_t ev_c app_some app_none
attribute [local go_sem] List.nil_append List.cons_append List.append_nil getL_hit getL_miss getH_nil getH_hit getH_miss nm_eq ne_eq Nat.reduceEqDiff not_false_eq_true Nat.reduceAdd Nat.add_zero Nat.zero_add if_true if_false ite_true ite_false pureK_s effK_s optK_s gdV_t gdV_f gdV_s pick_b ge_iff_le gt_iff_lt cond_true cond_false fresh_k cells_agg cells_int cells_bool cells_str cells_own cells_sl cells_nils ld_pv ld_pa ld_ip ldVar_t ldVar_f ldArr_t ldArr_f ldRow_t ldRow_f ldA_s ld1_s fad_pv fad_pa fad_ip nilc_pv nilc_pa nilc_ip not_b neg_i cvi_i ext_t retF_n retF_r
attribute [local go_sem] resV_k rvs_nil rvs_t rvs_c fstO_s consO_s resK_s resL_1 resL_2 resL_3 resL_4  Option.some.injEq List.map_cons List.map_nil List.all_cons List.all_nil Bool.and_true Bool.and_self Bool.not_true Bool.not_false Option.map_some Option.map_none sls_s slsG_s loV_n loV_i hiV_n hiV_i idx_s mn_i mx_i s2b_s b2s_s bytO_s bytes_nil bytes_cons conB_s slv_sl slv_own slv_nils slvG_s slvN_s slvO_s iad_sl iadG_map take_map drop_map List.length_map iad_own iad_view iadO_a iadW_a mks_i rowO_nils rowO_sl rowO_own rowA_a eq_self appG_nils appG_own appO_a guardP_T mapA_s bld_nil mkf_nil bldF_e fill_nil fill_cons mkf_e lens_s len_nils len_sl len_own len_view isn_nile isn_erre List.getElem?_cons_zero List.getElem?_cons_succ List.length_cons List.length_nil decide_true decide_false Int.toNat_natCast Int.cast_ofNat_Int Int.reduceLT Int.reduceLE Int.reduceEq Int.reduceAdd Int.reduceSub Int.reduceMul Int.reduceNeg Int.reduceToNat List.getD_cons_zero List.getD_cons_succ not_true_eq_false not_false_eq_true Bool.false_eq_true Bool.true_eq_false reduceCtorEq
attribute [local go_sem] E.row Pc.row Pair.row Part.row Strm.row Flw.row Pk.row Door.row Conv.row World.row Ev.row rdV E.eta Pc.eta Pair.eta Part.eta Strm.eta Pk.eta Flw.eta Conv.eta Door.eta World.eta Ev.eta
attribute [local go_sem] sub_ok st_pv st_pa stVar_v stArr_a Nat.le_refl List.drop_zero List.drop_succ_cons List.take_succ_cons List.take_zero setR Nat.reduceLeDiff
attribute [local go_sem] wk_bot wk2_bot wk1_bot wk_undef wk_tup_e wk2_agg_e wk_agg_e wk1_fn_e wk2_fn_e wk_fn_e wkl_nil wkl_cons wkh_var_e wkh_arr_e wkh_fresh_e wkh_dead_v wkh_dead_a wkh_dead_d wk0_undef wk0_int wk0_bool wk0_str wk0_nils wk0_nils_sl wk0_nilp wk0_nile wk0_erre wk0_sl wk0_iptr wk0_own wk0_view wk0_pv wk0_pa fzA_a fzW_a fzP_v wk0_own_sl wk0_view_sl wk0_pv_iptr WkS_nil WkS_cons WkN_nil WkN_cons nonB_nil nonB_cons getN_nil getN_hit getN_miss pinOk_0 pinOk_s and_true true_and and_self
attribute [local go_sem] bot_int one_int unt_int clo_int bot_bool one_bool unt_bool clo_bool bot_str one_str unt_str clo_str bot_nils one_nils unt_nils clo_nils bot_nilp one_nilp unt_nilp clo_nilp bot_nile one_nile unt_nile clo_nile bot_erre one_erre unt_erre clo_erre bot_raw one_raw unt_raw clo_raw bot_sl one_sl unt_sl clo_sl bot_own one_own unt_own clo_own bot_view one_view unt_view clo_view bot_pv one_pv unt_pv clo_pv bot_pa one_pa unt_pa clo_pa bot_iptr one_iptr unt_iptr clo_iptr unt_agg unt_fn one_fn
attribute [local go_sem] rn_tup rn_agg rn2_agg rn_fn rn2_fn rnfn1 rn_bot rn2_bot rn1_bot rn0_int rn0_bool rn0_str rn0_nils rn0_nilp rn0_nile rn0_erre rn0_sl rn0_iptr rn0_own rn0_view rn0_pv rn0_pa hrn_var hrn_arr hrn_dead outU_nil outU_cons deads_nil deads_cons bk_ge bk_lt nsF_0 nsF_s chH_0 chH_s chH_n newN_e andB_s eqR_nil eqR_i eqR_b eqR_s mapX_f mapX_t eqs_a beq_f beq_t live_arr live_var nsl_nil nsl_cons Nat.reduceMul Nat.reduceLT Nat.zero_le Nat.not_lt_zero
attribute [local go_sem] mV lD lA fD bN eX oP nP sR i0 s0
def ic7:IC:=sR [oP 2 (.mv (.c (.bool false)))] (.seq (sR [mV 16 0,oP 17 (.len (.t 16)),oP 18 (.bin .gtr (.t 17) (.c (.int .i64 1048576)))] (.cond (.t 18) (sR [oP 2 (.mv (.c (.bool true)))] .ret) .skip)) (sR [mV 20 0,oP 21 (.call 16 [.t 20]),mV 19 21,eX 22 19 0,eX 23 19 1,oP 3 (.alloc 26 [.nils,.nils]),oP 4 (.alloc 30 [i0,i0,i0,i0,i0,i0,s0]),nP (.sto 2 (.t 3) (.t 22)),nP (.sto 7 (.t 4) (.t 23))] (sR [lA 25 2 3,lA 26 7 4,oP 27 (.call 17 [.t 25,.t 26]),mV 24 27,eX 28 24 0,eX 29 24 1,eX 30 24 2,oP 5 (.alloc 26 [.nils,.nils]),oP 6 (.alloc 30 [i0,i0,i0,i0,i0,i0,s0]),nP (.sto 2 (.t 5) (.t 28)),nP (.sto 7 (.t 6) (.t 29)),mV 7 30] (sR [lA 32 2 3,lA 33 7 4,oP 34 (.call 18 [.t 32,.t 33]),mV 31 34,eX 35 31 0,eX 36 31 1,eX 37 31 2,oP 8 (.alloc 26 [.nils,.nils]),oP 9 (.alloc 30 [i0,i0,i0,i0,i0,i0,s0]),nP (.sto 2 (.t 8) (.t 35)),nP (.sto 7 (.t 9) (.t 36)),mV 10 37] (.seq (sR [mV 38 10,mV 39 7,oP 40 (.beq true (.t 38) (.t 39)),mV 41 40,⟨some 42,some (41,false),.ld 7 true (.t 9)⟩,⟨some 43,some (41,false),.ld 7 true (.t 6)⟩,⟨some 44,some (41,false),.eqs true [.i,.i,.i,.i,.i,.i,.s] (.t 42) (.t 43)⟩,oP 45 (.pick (.t 41) (.c (.bool true)) (.t 44)),mV 46 45,⟨some 47,some (46,false),.ld 2 true (.t 8)⟩,⟨some 48,some (46,false),.ld 2 true (.t 5)⟩,⟨some 49,some (46,false),.call 19 [.t 47,.t 48]⟩,⟨some 50,some (46,false),.un .not (.t 49)⟩,oP 51 (.pick (.t 46) (.c (.bool true)) (.t 50)),mV 52 51,⟨some 53,some (52,false),.mv (.t 10)⟩,⟨some 54,some (52,false),.un .not (.t 53)⟩,oP 55 (.pick (.t 52) (.c (.bool true)) (.t 54)),mV 56 55,⟨some 57,some (56,false),.fad 0 (.t 4)⟩,⟨some 58,some (56,false),.ld 1 false (.t 57)⟩,⟨some 59,some (56,false),.bin .neq (.t 58) (.c (.int .i64 1))⟩,oP 60 (.pick (.t 56) (.c (.bool true)) (.t 59))] (.cond (.t 60) (sR [mV 61 10,mV 62 7,oP 63 (.beq false (.t 61) (.t 62)),mV 64 63,⟨some 65,some (64,true),.ld 7 true (.t 9)⟩,⟨some 66,some (64,true),.ld 7 true (.t 6)⟩,⟨some 67,some (64,true),.eqs false [.i,.i,.i,.i,.i,.i,.s] (.t 65) (.t 66)⟩,oP 68 (.pick (.t 64) (.t 67) (.c (.bool false))),mV 69 68,⟨some 70,some (69,true),.ld 2 true (.t 8)⟩,⟨some 71,some (69,true),.ld 2 true (.t 5)⟩,⟨some 72,some (69,true),.call 19 [.t 70,.t 71]⟩,oP 73 (.pick (.t 69) (.t 72) (.c (.bool false))),mV 2 73] .ret) .skip)) (sR [lA 75 2 8,fD 76 1 4,lA 77 2 76,fD 78 3 4,lA 79 2 78,oP 80 (.call 29 [.t 75,.t 77,.t 79]),mV 74 80,eX 81 74 0,eX 82 74 1,oP 11 (.alloc 46 [i0,i0,i0,i0,s0,.nils,s0,.nils]),nP (.sto 8 (.t 11) (.t 81)),mV 12 82] (sR [fD 83 4 11,lA 84 2 83,oP 85 (.call 32 [.t 84]),mV 13 85] (.seq (.seq (.drw [0,1,0,4,12,31,0,64,255,511,1023,1023,3071,1023,9215,1023,33791,99327,254975,524287,1023,1049599,4194303,8388607] [(0,fD 86 5 9),(1,lD 87 1 86),(2,fD 88 6 9),(3,lD 89 1 88),(4,oP 90 (.lens (.t 89))),(5,bN 91 .add 87 90),(6,mV 92 13),(7,oP 93 (.lens (.t 92))),(8,bN 94 .gtr 91 93),(9,mV 95 94),(10,⟨some 96,some (95,false),.mv (.t 13)⟩),(11,⟨some 97,some (95,false),.fad 5 (.t 9)⟩),(12,⟨some 98,some (95,false),.ld 1 false (.t 97)⟩),(13,⟨some 99,some (95,false),.fad 5 (.t 9)⟩),(14,⟨some 100,some (95,false),.ld 1 false (.t 99)⟩),(15,⟨some 101,some (95,false),.fad 6 (.t 9)⟩),(16,⟨some 102,some (95,false),.ld 1 false (.t 101)⟩),(17,⟨some 103,some (95,false),.lens (.t 102)⟩),(18,⟨some 104,some (95,false),.bin .add (.t 100) (.t 103)⟩),(19,⟨some 105,some (95,false),.sls (.t 96) (some (.t 98)) (some (.t 104))⟩),(20,⟨some 106,some (95,false),.fad 6 (.t 9)⟩),(21,⟨some 107,some (95,false),.ld 1 false (.t 106)⟩),(22,⟨some 108,some (95,false),.bin .neq (.t 105) (.t 107)⟩),(23,oP 109 (.pick (.t 95) (.c (.bool true)) (.t 108)))]) (.cond (.t 109) (sR [oP 2 (.mv (.c (.bool false)))] .ret) .skip)) (sR [lA 111 2 3,fD 112 1 4,lA 113 2 112,fD 114 3 4,lA 115 2 114,oP 116 (.call 29 [.t 111,.t 113,.t 115]),mV 110 116,eX 117 110 0,eX 118 110 1,oP 14 (.alloc 46 [i0,i0,i0,i0,s0,.nils,s0,.nils]),nP (.sto 8 (.t 14) (.t 117)),mV 15 118] (sR [fD 119 4 14,fD 120 0 119,lD 121 1 120,fD 122 4 11,fD 123 0 122,lD 124 1 123,oP 125 (.call 34 [.t 121,.t 124]),mV 126 125,⟨some 127,some (126,true),.fad 6 (.t 11)⟩,⟨some 128,some (126,true),.ld 2 true (.t 127)⟩,⟨some 129,some (126,true),.fad 6 (.t 14)⟩,⟨some 130,some (126,true),.ld 2 true (.t 129)⟩,⟨some 131,some (126,true),.call 35 [.t 128,.t 130]⟩,oP 132 (.pick (.t 126) (.t 131) (.c (.bool false))),mV 133 132,⟨some 134,some (133,true),.fad 4 (.t 11)⟩,⟨some 135,some (133,true),.fad 0 (.t 134)⟩,⟨some 136,some (133,true),.ld 1 false (.t 135)⟩,⟨some 137,some (133,true),.lens (.t 136)⟩,⟨some 138,some (133,true),.fad 4 (.t 14)⟩,⟨some 139,some (133,true),.fad 0 (.t 138)⟩,⟨some 140,some (133,true),.ld 1 false (.t 139)⟩,⟨some 141,some (133,true),.lens (.t 140)⟩,⟨some 142,some (133,true),.fad 5 (.t 4)⟩,⟨some 143,some (133,true),.ld 1 false (.t 142)⟩,⟨some 144,some (133,true),.fad 6 (.t 4)⟩,⟨some 145,some (133,true),.ld 1 false (.t 144)⟩,⟨some 146,some (133,true),.lens (.t 145)⟩,⟨some 147,some (133,true),.bin .add (.t 143) (.t 146)⟩,⟨some 148,some (133,true),.mx (.t 141) (.t 147)⟩,⟨some 149,some (133,true),.bin .eql (.t 137) (.t 148)⟩,oP 150 (.pick (.t 133) (.t 149) (.c (.bool false))),mV 2 150] .ret))))))))))
theorem dg7:Dg Tryz.prog 7 Tryz.f7 ic7 [(.t 2)]:=⟨Tryz.func7,by kernel_rfl,by kernel_rfl⟩
theorem c7 (code:B):FnR Tryz.prog G 7 [.sl 1 (code.map byR)] (.bool true):=by
  refine mF dg7 Tryz.ntmps7 ?_
  simp only [ic7,go_sem]
  by_cases hc:(1048576:Int)<code.length
  · simp only [eq_true hc,go_sem]
  simp only [eq_false hc,go_sem]
  refine callO (c16 code (by omega)) [] 21 0 (by simp only [go_sem];first|done|simp) (by simp) (by rintro _ _ ⟨_,_,_,_,_,rfl⟩;simp) (by intro i hi;omega) ?_
  rintro _ _ ⟨d,p,⟨hb,hl3,hq⟩,hpl,rfl,rfl⟩
  simp only [go_sem]
  have f1:=c17 d p hb (fun _=>hl3) (by omega)
  have f2:=c18 d p hb (by omega)
  have xb:=doorOut_db d p
  have hyes:=fun r (h:(doorOut d p).2=some r)=>doorOut_yes h
  obtain ⟨⟨x,o⟩,hx⟩:∃ y,doorOut d p=y:=⟨_,rfl⟩
  rw [hx] at f1 f2 xb hyes
  have f3:=l19 x xb
  simp only at f1 f2 f3 hyes xb
  cases o with
  | none =>
    simp only [Option.getD_none,Option.isSome_none] at f1 f2
    with_reducible repeat' (first|refine br ?_ ?_<;>intro h e<;>(try simp only [e,go_sem,dff])<;>clear e|rw [i64w (by omega)]|refine sd ?_<;>try simp only [go_sem,dff]|(first|refine cr (f1 ..) ?_|refine cr (f2 ..) ?_|refine cr (f3 ..) ?_)<;>try simp only [go_sem,dff]|fail)
  | some r =>
    obtain ⟨hd,hp,ho,hdx,hdo⟩:=hyes r rfl
    simp only [Option.getD_some,Option.isSome_some] at f1 f2
    by_cases hk:p.kind=1
    · obtain ⟨⟨gi,go,gu,gd⟩,e1,e2,⟨e3,e4⟩,e5,e6,e7,e8,e9⟩:=law_outText hd hp ho hdo hk
      have hp':=pkOk_P hp
      have hpa:=hp'.at_
      have hpl2:=hp'.len
      have h240:=sOut_len (strmOk_B e2)
      have f4:=c29 x p.frm p.to xb.2.1
      have f5:=c32 gu e2
      have f6:=c29 d p.frm p.to hb.2.1
      have hg:((flowIx x.flows p.frm p.to).bind fun k=>x.flows[k]?)=some ⟨gi,go,gu,gd⟩:=e1
      have hg0:((flowIx d.flows p.frm p.to).bind fun k=>d.flows[k]?)=flowOf d p.frm p.to:=rfl
      rw [hg] at f4
      rw [hg0] at f6
      have hfd:SB ((flowOf d p.frm p.to).getD .zero).down:=by
        cases h:flowOf d p.frm p.to with
        | none=>exact ⟨by simp [Flw.zero,Strm.zero],by simp [Flw.zero,Strm.zero],by simp [Flw.zero,Strm.zero]⟩
        | some g =>
          unfold flowOf at h
          cases hi:flowIx d.flows p.frm p.to with
          | none=>rw [hi] at h;cases h
          | some k=>rw [hi] at h;exact (hb.2.2 _ (List.mem_of_getElem? h)).2
      generalize (flowOf d p.frm p.to).getD .zero=f0 at *
      simp only at e2 e3 e4 e5 e6 e7 e8 e9 f5 h240
      simp only [hk] at f1 f2 ⊢
      subst e7
      have f7:=c34 f0.up.inn gu.inn e6 (by omega)
      have f8:=c35 f0.down hfd.2.1
      have hsl:List.drop r.at_.toNat (List.take (r.at_+(r.text.length:Int)).toNat (sOut gu))=r.text:=by
        rw [List.drop_take,show (r.at_+(r.text.length:Int)).toNat - r.at_.toNat=r.text.length by omega]
        exact e5
      have w1:IntKind.i64.wrap (r.at_+(r.text.length:Int))=r.at_+r.text.length:=i64w (by omega)
      have w2:IntKind.i64.wrap (p.at_+(p.text.length:Int))=p.at_+p.text.length:=i64w (by omega)
      simp only [Option.getD_some] at f4
      with_reducible repeat' (first|refine br ?_ ?_<;>intro h e<;>(try simp only [e,go_sem,dtt,hk,w1,w2,hsl,e8])<;>clear e|rw [i64w (by omega)]|refine sd ?_<;>try simp only [go_sem,dtt,hk,w1,w2,hsl,e8]|(first|refine cr (f1 ..) ?_|refine cr (f2 ..) ?_|refine cr (f3 ..) ?_|refine cr (f4 ..) ?_|refine cr (f5 ..) ?_|refine cr (f6 ..) ?_|refine cr (f7 ..) ?_|refine cr (f8 ..) ?_)<;>try simp only [go_sem,dtt,hk,w1,w2,hsl,e8]|fail)
      all_goals first|done|omega|trace_state
    · with_reducible repeat' (first|refine br ?_ ?_<;>intro h e<;>(try simp only [e,go_sem,dtt,hk])<;>clear e|rw [i64w (by omega)]|refine sd ?_<;>try simp only [go_sem,dtt,hk]|(first|refine cr (f1 ..) ?_|refine cr (f2 ..) ?_|refine cr (f3 ..) ?_)<;>try simp only [go_sem,dtt,hk]|fail)
end Go.Proofs.YtfepdcpidkjklaaGreatDoor.W
namespace Go.Proofs.YtfepdcpidkjklaaGreatDoor.fnOutText
open Go Go.ChangeShapes Go.WideShapes Go.ChangeAt Go.RowKit Go.Proofs.YtfepdcpidkjklaaGreatDoor.W
theorem walk (v0:Value) (W:World) (hs:W.ShapedOpen Tryz.prog) (hL:laidMetH Tryz.prog Rows.fnOutTextRow.laid W) (hv0:∃ code:M.B,VL.Den W noO noρ noH (.sl 1 (code.map M.byR)) v0) :
    Calls Tryz.prog 7 #[v0] W fun e W'=>e=.returned (.bool true)∧Below W.heap.size W W':=by
  obtain ⟨code,hdv0⟩:=hv0
  have:=Go.Proofs.YtfepdcpidkjklaaGreatDoor.W.FnR.calls (c7 code) (us:=[v0]) (gOk rfl hL hs) ⟨rfl,fun j a b ha hb=>by
    match j,ha,hb with
    | 0,ha,hb=>cases ha;cases hb;exact hdv0
    | j+1,ha,hb=>simp at ha⟩
  exact this
set_option maxRecDepth 100000 in
theorem contract (H:Type) (enc:TypeId × Value→H) (W:World) (base:Nat) (args:Array Value) (ds gs:List (DataW H)) (before:List MemPlace)
    (hval:∀ (j:Nat) t v,Tryz.f7.params[j]?=some t→args[j]?=some v→Value.okWide Tryz.prog W .any base t v)
    (hW:DataW.Whole enc Tryz.prog Tryz.f7.params.toList Rows.fnOutTextSpec.vars false W args.toList ds gs before) (hL:laidMetH Tryz.prog Rows.fnOutTextRow.laid W) (hs:W.ShapedOpen Tryz.prog) :
    Calls Tryz.prog 7 args W fun e W'=>∃ v,e=.returned v∧Rows.fnOutTextSpec.post enc Tryz.prog Tryz.f7 false true false false W args v W':=by
  have hW':=hW
  obtain ⟨p,q,hA0,hV,rfl,hfz,hnd⟩:=hW
  have hA:DataW.TrodAll enc Tryz.prog W 0 (fun _=>true) true Tryz.f7.params.toList args.toList ds p:=hA0
  rw [Tryz.params7] at hA hval
  obtain ⟨v0,r0s,d0,d0s,p0,q0,hargs0,rfl,rfl,h0,r0⟩:=trodAll_cons hA
  obtain ⟨e1,e2,e3⟩:=trodAll_nil r0
  subst e1 e2 e3
  obtain rfl:args=#[v0]:=by cases args;simp_all
  obtain ⟨rfl,rfl⟩:=trodVars_none hV
  obtain ⟨a0,len0,cap0,hv0⟩:=okWide_slice Tryz.underlying22 (hval 0 22 v0 rfl rfl)
  have k0:=h0
  have lt0:∀ x∈p0,x.block<W.heap.size:=by obtain ⟨m,hm⟩:=k0;exact DataW.trod_lt m _ _ _ hm
  have hc0:=open_code h0 ⟨a0,len0,cap0,hv0⟩
  clear hA0
  refine (walk v0 W hs hL hc0).mono fun e W' ⟨he,bel⟩=>?_
  subst he
  exact ⟨_,rfl,_,_,_,[],_,[],hW',trodAll_mk1 (shut_bool Tryz.underlying4 _),(trodAll_cons_mk (Below.trod laidOut (by kernel_rfl) (of_decide_eq_true (by kernel_rfl)) k0 bel lt0) trodAll_mk0),rfl,bel.frame _,fun h=>by cases h⟩
theorem inP:(Rows.fnOutTextRow.inPlace == Tryz.prog.inPlace 7)=true:=by kernel_rfl
theorem unf:(Rows.fnOutTextRow.unfollowed == Tryz.prog.unfollowed 7)=true:=by kernel_rfl
theorem rcs:(Rows.fnOutTextRow.recurses == Tryz.prog.recurses 7)=true:=by kernel_rfl
theorem nam:(Rows.fnOutTextRow.named == Tryz.prog.varsNamed 7)=true:=by kernel_rfl
theorem lif:(Rows.fnOutTextRow.lifted == Tryz.prog.liftsFinal)=true:=lifF
theorem pke:(Rows.fnOutTextRow.plainKeys == Tryz.prog.plainKeys)=true:=pkeF
theorem mak:(Tryz.prog.make == some Rows.fnOutTextRow.make)=true:=makF
theorem closed0:joinedFacts Tryz.prog 7 Tryz.f7 Rows.fnOutTextSpec Rows.fnOutTextRow=true:=by
  unfold joinedFacts
  rw [laidOut,mapF,inP,unf,rcs,nam,pke,stoF,mayF,lif,mak]
  kernel_rfl
theorem closed:joinedFacts Tryz.pinned.checked.prog 7 Tryz.f7 (OpenSpec.ofChange Rows.fnOutTextSpec).bare Rows.fnOutTextRow=true :=
  (show joinedFacts Tryz.pinned.checked.prog 7 Tryz.f7 (OpenSpec.ofChange Rows.fnOutTextSpec).bare Rows.fnOutTextRow=joinedFacts Tryz.prog 7 Tryz.f7 Rows.fnOutTextSpec Rows.fnOutTextRow by kernel_rfl).trans closed0
theorem door_met (os:Os) (args:Array Value):laidMetH Tryz.prog Rows.fnOutTextRow.laid ((World.doorLaid Tryz.prog 400 os).forCall (fun _ _=>0) ⟨#[],args,[]⟩).memory :=
  laidMetH_of_parts3 (fuel:=8) (laidMet_of_run' 8 (by kernel_rfl) (by kernel_rfl)) (by kernel_rfl) (by kernel_rfl)
theorem reads (os:Os) {H:Type} (enc:TypeId × Value→H):∃ places,DataW.whole enc Tryz.prog ((World.doorLaid Tryz.prog 400 os).forCall (fun _ _=>0) ⟨#[],#[.slice none 0 0],[]⟩).memory Tryz.f7.params.toList Rows.fnOutTextSpec.vars false #[Value.slice none 0 0].toList 8=some ([.nil],[],places) :=
  ⟨[],by kernel_rfl⟩
set_option maxRecDepth 100000 in
theorem lifted (os:Os) (started:os.Started) (H:Type) (enc:TypeId × Value→H) (F:Stop.Interp) :
    ReturnsInHanded {} Tryz.checked os 7 .any ((OpenSpec.ofChange Rows.fnOutTextSpec).preRow enc Tryz.prog Tryz.f7 Rows.fnOutTextRow.domain false Rows.fnOutTextRow.laid) (((OpenSpec.ofChange Rows.fnOutTextSpec).at F).post enc Tryz.prog Tryz.f7 false true false false):=by
  obtain ⟨places,hx⟩:=reads os enc
  refine returnsInHanded_of_row (C:=Tryz.checked) (s:=OpenSpec.ofChange Rows.fnOutTextSpec) own started (by kernel_rfl) Tryz.func7
    (witness_row_atRef (enc:=enc) (C:=Tryz.checked) false (World.doorLaid Tryz.prog 400 os) #[.slice none 0 0] rfl (by kernel_rfl) (by kernel_rfl) (by kernel_rfl)
      (OpenSpec.preRow_of_cond 8 hx (by kernel_rfl) (fun k hk=>by cases hk) (by kernel_rfl) (door_met os _))) ?_
  intro W base args ds gs before hval hW _ _ _ hL hs _
  exact contract H enc W base args ds gs before hval hW hL hs
theorem said:Rows.FnOutTextSaid :=
  OpenClaim.holds_of_cond 7 Tryz.f7 rfl rfl rfl rfl rfl rfl rfl ⟨rfl,rfl,rfl,rfl,rfl⟩ rfl rfl rfl rfl rfl (by kernel_rfl) Tryz.func7 closed
    (of_decide_eq_true (by kernel_rfl)) (by unfold Func.isWrapper;first|(rw [if_pos (by decide +kernel)];kernel_rfl)|(rw [if_neg (by decide +kernel)];exact ⟨rfl,rfl⟩))
    (fun os started H enc _ F=>by rw [OpenClaim.pre_eq_preRow];exact lifted os started H enc F)
theorem plain (f:FuncId) (fn:Func) (hf:Tryz.pinned.checked.prog.funcNamed "loop.example/ostiary/laws.FnOutText"=some f) (hfn:Tryz.pinned.checked.prog.funcs[f]?=some fn) :
    true=Tryz.pinned.checked.prog.looks []∧∀ (j:Nat) t,fn.params[j]?=some t→Tryz.pinned.checked.prog.wantsStandIn t=false:=by
  obtain rfl:f=7:=Option.some.inj ((show Tryz.prog.funcNamed "loop.example/ostiary/laws.FnOutText"=some 7 by kernel_rfl).symm.trans hf) |>.symm
  obtain rfl:fn=Tryz.f7:=(Option.some.inj (Tryz.func7.symm.trans hfn)).symm
  refine ⟨by kernel_rfl,fun j t ht=>?_⟩
  rw [Tryz.params7] at ht
  obtain rfl:t=22:=by simpa using Array.mem_of_getElem? ht
  exact (show Tryz.prog.wantsStandIn 22=false by kernel_rfl)
theorem card:Rows.FnOutTextCardSaid :=
  Claim7.holds_tied_plain_at .later [] _ _ _ _ said (fun _ h=>by cases h) (by kernel_rfl) (fun _ h=>by cases h) fnOutText_row_tie rfl ⟨rfl,rfl⟩ (by kernel_rfl) rfl plain (by kernel_rfl)
end Go.Proofs.YtfepdcpidkjklaaGreatDoor.fnOutText
