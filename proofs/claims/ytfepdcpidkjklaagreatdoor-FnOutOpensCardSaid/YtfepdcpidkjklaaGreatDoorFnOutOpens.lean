/- FnOutOpens: what goes out lets its answer in. Conditions: those of the row alone. -/
import Derived.Test.YtfepdcpidkjklaaGreatDoorX07
import Derived.Test.YtfepdcpidkjklaaGreatDoorX04
import Derived.Test.YtfepdcpidkjklaaGreatDoorCards
import Derived.Test.YtfepdcpidkjklaaGreatDoorTie
set_option linter.all false
namespace Go.Proofs.YtfepdcpidkjklaaGreatDoor.W
open Go Go.RowKit Go.Proofs Go.Proofs.YtfepdcpidkjklaaGreatDoor.VL Go.Proofs.YtfepdcpidkjklaaGreatDoor.M
attribute [local congr] optK_congr guardK_congr condK_congr runT_congr runD_congr wpI_congr CallV_congr LoopI_congr pureK_congr effK_congr calK_congr stepV_congr doV_congr exN_congr exB_congr retF_congr retQ_congr gK_congr condW_congr ldK_congr stoK_congr
attribute [local go_sem] argL_cons argL_nil argH_nil argH_cons chH_getH wpI_seq wpI_reg wpI_drw wpI_ret cond_k condW_t condW_f wpI_skip wpI_block wpI_exit wpI_loop exN_n exN_r exN_e exB_n exB_r exB_h exB_m runT_k kT_e runT_nil runD_k kD_e runD_nil step_u step_k gK_t gK_f do_mv do_bino bo_add bo_sub bo_mul bo_subu bo_quo bo_rem bo_xor bo_eql bo_neq bo_lss bo_leq bo_gtr bo_geq bo_cat bo_eqs bo_nes do_pick do_call do_cal calK_f do_box do_alloc do_ldk ldK_s do_stok stoK_s do_fad do_nilc do_not do_neg do_len do_lens do_ext do_eqs do_beq do_isn do_cvi do_sls do_idx do_mn do_mx do_build do_mkf do_s2b do_b2s do_slv do_iad do_bsl do_mks do_app ev_t ev_c app_some app_none
attribute [local go_sem] List.nil_append List.cons_append List.append_nil getL_hit getL_miss getH_nil getH_hit getH_miss nm_eq ne_eq Nat.reduceEqDiff not_false_eq_true Nat.reduceAdd Nat.add_zero Nat.zero_add if_true if_false ite_true ite_false pureK_s effK_s optK_s gdV_t gdV_f gdV_s pick_b ge_iff_le gt_iff_lt cond_true cond_false fresh_k cells_agg cells_int cells_bool cells_str cells_own cells_sl cells_nils ld_pv ld_pa ld_ip ldVar_t ldVar_f ldArr_t ldArr_f ldRow_t ldRow_f ldA_s ld1_s fad_pv fad_pa fad_ip nilc_pv nilc_pa nilc_ip not_b neg_i cvi_i ext_t retF_n retF_r
attribute [local go_sem] resV_k rvs_nil rvs_t rvs_c fstO_s consO_s resK_s resL_1 resL_2 resL_3 resL_4  Option.some.injEq List.map_cons List.map_nil List.all_cons List.all_nil Bool.and_true Bool.and_self Bool.not_true Bool.not_false Option.map_some Option.map_none sls_s slsG_s loV_n loV_i hiV_n hiV_i idx_s mn_i mx_i s2b_s b2s_s bytO_s bytes_nil bytes_cons conB_s slv_sl slv_own slv_nils slvG_s slvN_s slvO_s iad_sl iadG_map take_map drop_map List.length_map iad_own iad_view iadO_a iadW_a mks_i rowO_nils rowO_sl rowO_own rowA_a eq_self appG_nils appG_own appO_a guardP_T mapA_s bld_nil mkf_nil bldF_e fill_nil fill_cons mkf_e lens_s len_nils len_sl len_own len_view isn_nile isn_erre List.getElem?_cons_zero List.getElem?_cons_succ List.length_cons List.length_nil decide_true decide_false Int.toNat_natCast Int.cast_ofNat_Int Int.reduceLT Int.reduceLE Int.reduceEq Int.reduceAdd Int.reduceSub Int.reduceMul Int.reduceNeg Int.reduceToNat List.getD_cons_zero List.getD_cons_succ not_true_eq_false not_false_eq_true Bool.false_eq_true Bool.true_eq_false reduceCtorEq
attribute [local go_sem] E.row Pc.row Pair.row Part.row Strm.row Flw.row Pk.row Door.row Conv.row World.row Ev.row rdV E.eta Pc.eta Pair.eta Part.eta Strm.eta Pk.eta Flw.eta Conv.eta Door.eta World.eta Ev.eta
attribute [local go_sem] sub_ok st_pv st_pa stVar_v stArr_a Nat.le_refl List.drop_zero List.drop_succ_cons List.take_succ_cons List.take_zero setR Nat.reduceLeDiff
attribute [local go_sem] wk_bot wk2_bot wk1_bot wk_undef wk_tup_e wk2_agg_e wk_agg_e wk1_fn_e wk2_fn_e wk_fn_e wkl_nil wkl_cons wkh_var_e wkh_arr_e wkh_fresh_e wkh_dead_v wkh_dead_a wkh_dead_d wk0_undef wk0_int wk0_bool wk0_str wk0_nils wk0_nils_sl wk0_nilp wk0_nile wk0_erre wk0_sl wk0_iptr wk0_own wk0_view wk0_pv wk0_pa fzA_a fzW_a fzP_v wk0_own_sl wk0_view_sl wk0_pv_iptr WkS_nil WkS_cons WkN_nil WkN_cons nonB_nil nonB_cons getN_nil getN_hit getN_miss pinOk_0 pinOk_s and_true true_and and_self
attribute [local go_sem] bot_int one_int unt_int clo_int bot_bool one_bool unt_bool clo_bool bot_str one_str unt_str clo_str bot_nils one_nils unt_nils clo_nils bot_nilp one_nilp unt_nilp clo_nilp bot_nile one_nile unt_nile clo_nile bot_erre one_erre unt_erre clo_erre bot_raw one_raw unt_raw clo_raw bot_sl one_sl unt_sl clo_sl bot_own one_own unt_own clo_own bot_view one_view unt_view clo_view bot_pv one_pv unt_pv clo_pv bot_pa one_pa unt_pa clo_pa bot_iptr one_iptr unt_iptr clo_iptr unt_agg unt_fn one_fn
attribute [local go_sem] rn_tup rn_agg rn2_agg rn_fn rn2_fn rnfn1 rn_bot rn2_bot rn1_bot rn0_int rn0_bool rn0_str rn0_nils rn0_nilp rn0_nile rn0_erre rn0_sl rn0_iptr rn0_own rn0_view rn0_pv rn0_pa hrn_var hrn_arr hrn_dead outU_nil outU_cons deads_nil deads_cons bk_ge bk_lt nsF_0 nsF_s chH_0 chH_s chH_n newN_e andB_s eqR_nil eqR_i eqR_b eqR_s mapX_f mapX_t eqs_a beq_f beq_t live_arr live_var nsl_nil nsl_cons Nat.reduceMul Nat.reduceLT Nat.zero_le Nat.not_lt_zero
attribute [local go_sem] mV lD lA fD bN eX oP nP sR i0 s0
def ic14:IC:=sR [oP 2 (.mv (.c (.bool false)))] (.seq (sR [mV 17 0,oP 18 (.len (.t 17)),oP 19 (.bin .gtr (.t 18) (.c (.int .i64 1048576)))] (.cond (.t 19) (sR [oP 2 (.mv (.c (.bool true)))] .ret) .skip)) (sR [mV 21 0,oP 22 (.call 16 [.t 21]),mV 20 22,eX 23 20 0,eX 24 20 1,oP 3 (.alloc 26 [.nils,.nils]),oP 4 (.alloc 30 [i0,i0,i0,i0,i0,i0,s0]),nP (.sto 2 (.t 3) (.t 23)),nP (.sto 7 (.t 4) (.t 24))] (sR [lA 26 2 3,lA 27 7 4,oP 28 (.call 17 [.t 26,.t 27]),mV 25 28,eX 29 25 0,eX 30 25 1,eX 31 25 2,oP 5 (.alloc 26 [.nils,.nils]),oP 6 (.alloc 30 [i0,i0,i0,i0,i0,i0,s0]),nP (.sto 2 (.t 5) (.t 29)),nP (.sto 7 (.t 6) (.t 30)),mV 7 31] (sR [lA 33 2 3,lA 34 7 4,oP 35 (.call 18 [.t 33,.t 34]),mV 32 35,eX 36 32 0,eX 37 32 1,eX 38 32 2,oP 8 (.alloc 26 [.nils,.nils]),oP 9 (.alloc 30 [i0,i0,i0,i0,i0,i0,s0]),nP (.sto 2 (.t 8) (.t 36)),nP (.sto 7 (.t 9) (.t 37)),mV 10 38] (.seq (sR [mV 39 10,mV 40 7,oP 41 (.beq true (.t 39) (.t 40)),mV 42 41,⟨some 43,some (42,false),.ld 7 true (.t 9)⟩,⟨some 44,some (42,false),.ld 7 true (.t 6)⟩,⟨some 45,some (42,false),.eqs true [.i,.i,.i,.i,.i,.i,.s] (.t 43) (.t 44)⟩,oP 46 (.pick (.t 42) (.c (.bool true)) (.t 45)),mV 47 46,⟨some 48,some (47,false),.ld 2 true (.t 8)⟩,⟨some 49,some (47,false),.ld 2 true (.t 5)⟩,⟨some 50,some (47,false),.call 19 [.t 48,.t 49]⟩,⟨some 51,some (47,false),.un .not (.t 50)⟩,oP 52 (.pick (.t 47) (.c (.bool true)) (.t 51)),mV 53 52,⟨some 54,some (53,false),.mv (.t 10)⟩,⟨some 55,some (53,false),.un .not (.t 54)⟩,oP 56 (.pick (.t 53) (.c (.bool true)) (.t 55))] (.cond (.t 56) (sR [mV 57 10,mV 58 7,oP 59 (.beq false (.t 57) (.t 58)),mV 60 59,⟨some 61,some (60,true),.ld 7 true (.t 9)⟩,⟨some 62,some (60,true),.ld 7 true (.t 6)⟩,⟨some 63,some (60,true),.eqs false [.i,.i,.i,.i,.i,.i,.s] (.t 61) (.t 62)⟩,oP 64 (.pick (.t 60) (.t 63) (.c (.bool false))),mV 65 64,⟨some 66,some (65,true),.ld 2 true (.t 8)⟩,⟨some 67,some (65,true),.ld 2 true (.t 5)⟩,⟨some 68,some (65,true),.call 19 [.t 66,.t 67]⟩,oP 69 (.pick (.t 65) (.t 68) (.c (.bool false))),mV 2 69] .ret) .skip)) (sR [lA 71 2 8,fD 72 1 4,lA 73 2 72,fD 74 3 4,lA 75 2 74,oP 76 (.call 29 [.t 71,.t 73,.t 75]),mV 70 76,eX 77 70 0,eX 78 70 1,oP 11 (.alloc 46 [i0,i0,i0,i0,s0,.nils,s0,.nils]),nP (.sto 8 (.t 11) (.t 77)),mV 12 78] (.seq (sR [fD 79 6 11,fD 80 0 79,lD 81 1 80,oP 82 (.lens (.t 81)),oP 83 (.bin .gtr (.t 82) (.c (.int .i64 30))),mV 84 83,⟨some 85,some (84,false),.fad 6 (.t 11)⟩,⟨some 86,some (84,false),.fad 0 (.t 85)⟩,⟨some 87,some (84,false),.ld 1 false (.t 86)⟩,⟨some 88,some (84,false),.call 36 [.t 87]⟩,⟨some 89,some (84,false),.bin .gtr (.t 88) (.c i0)⟩,oP 90 (.pick (.t 84) (.c (.bool true)) (.t 89))] (.cond (.t 90) (sR [oP 2 (.mv (.c (.bool true)))] .ret) .skip)) (sR [fD 91 3 4,lA 92 2 91,fD 93 1 9,lA 94 2 93,fD 95 6 11,fD 96 0 95,lD 97 1 96,oP 98 (.lens (.t 97)),oP 99 (.build [i0,i0,i0,i0,i0,i0,s0] [(0,(1,.c (.int .i64 1))),(1,(2,.t 92)),(3,(2,.t 94)),(5,(1,.t 98)),(6,(1,.c (.str [121,101,115])))]),oP 13 (.alloc 30 [i0,i0,i0,i0,i0,i0,s0]),nP (.sto 7 (.t 13) (.t 99))] (sR [lA 101 2 8,lA 102 7 13,oP 103 (.call 23 [.t 101,.t 102]),mV 100 103,eX 104 100 0,eX 105 100 1,eX 106 100 2,oP 14 (.alloc 26 [.nils,.nils]),oP 15 (.alloc 30 [i0,i0,i0,i0,i0,i0,s0]),nP (.sto 2 (.t 14) (.t 104)),nP (.sto 7 (.t 15) (.t 105)),mV 16 106] (.seq (.drw [0,1,3,7,3,19,63,127,255,511,1023,511,2559,8191,16383,32767,65535,131071,262143,524287,1048575,2097151,4194303,2097151,10485759,27262975,60817407,134217727,268435455,536870911] [(0,mV 107 16),(1,mV 108 107),(2,⟨some 109,some (108,true),.fad 3 (.t 15)⟩),(3,⟨some 110,some (108,true),.ld 2 true (.t 109)⟩),(4,⟨some 111,some (108,true),.fad 1 (.t 4)⟩),(5,⟨some 112,some (108,true),.ld 2 true (.t 111)⟩),(6,⟨some 113,some (108,true),.eqs false [.i,.i] (.t 110) (.t 112)⟩),(7,oP 114 (.pick (.t 108) (.t 113) (.c (.bool false)))),(8,mV 115 114),(9,⟨some 116,some (115,true),.fad 1 (.t 15)⟩),(10,⟨some 117,some (115,true),.ld 2 true (.t 116)⟩),(11,⟨some 118,some (115,true),.fad 3 (.t 4)⟩),(12,⟨some 119,some (115,true),.ld 2 true (.t 118)⟩),(13,⟨some 120,some (115,true),.eqs false [.i,.i] (.t 117) (.t 119)⟩),(14,oP 121 (.pick (.t 115) (.t 120) (.c (.bool false)))),(15,mV 122 121),(16,⟨some 123,some (122,true),.fad 6 (.t 15)⟩),(17,⟨some 124,some (122,true),.ld 1 false (.t 123)⟩),(18,⟨some 125,some (122,true),.bin .eql (.t 124) (.c (.str [121,101,115]))⟩),(19,oP 126 (.pick (.t 122) (.t 125) (.c (.bool false)))),(20,mV 127 126),(21,⟨some 128,some (127,true),.fad 5 (.t 15)⟩),(22,⟨some 129,some (127,true),.ld 1 false (.t 128)⟩),(23,⟨some 130,some (127,true),.fad 6 (.t 11)⟩),(24,⟨some 131,some (127,true),.ld 2 true (.t 130)⟩),(25,⟨some 132,some (127,true),.call 32 [.t 131]⟩),(26,⟨some 133,some (127,true),.lens (.t 132)⟩),(27,⟨some 134,some (127,true),.bin .eql (.t 129) (.t 133)⟩),(28,oP 135 (.pick (.t 127) (.t 134) (.c (.bool false)))),(29,mV 2 135)]) .ret))))))))))
theorem dg14:Dg Tryz.prog 14 Tryz.f14 ic14 [(.t 2)]:=⟨Tryz.func14,by kernel_rfl,by kernel_rfl⟩
theorem c14 (code:B):FnR Tryz.prog G 14 [.sl 1 (code.map byR)] (.bool true):=by
  refine mF dg14 Tryz.ntmps14 ?_
  simp only [ic14,go_sem]
  by_cases hc:(1048576:Int)<code.length
  · simp only [eq_true hc,go_sem]
  simp only [eq_false hc,go_sem]
  refine callO (c16 code (by omega)) [] 22 0 (by simp only [go_sem];first|done|simp) (by simp) (by rintro _ _ ⟨_,_,_,_,_,rfl⟩;simp) (by intro i hi;omega) ?_
  rintro _ _ ⟨d,p,⟨hb,hl3,hq⟩,hpl,rfl,rfl⟩
  simp only [go_sem]
  have f1:=c17 d p hb (fun _=>hl3) (by omega)
  have f2:=c18 d p hb (by omega)
  have xb:=doorOut_db d p
  have hyes:=fun r (h:(doorOut d p).2=some r)=>doorOut_yes h
  obtain ⟨⟨x,o⟩,hx⟩:∃ y,doorOut d p=y:=⟨_,rfl⟩
  rw [hx] at f1 f2 xb hyes
  have f3:=l19 x xb
  simp only at f1 f2 f3 hyes xb
  cases o with
  | none =>
    simp only [Option.getD_none,Option.isSome_none] at f1 f2
    with_reducible repeat' (first|refine br ?_ ?_<;>intro h e<;>(try simp only [e,go_sem,dff])<;>clear e|rw [i64w (by omega)]|refine sd ?_<;>try simp only [go_sem,dff]|(first|refine cr (f1 ..) ?_|refine cr (f2 ..) ?_|refine cr (f3 ..) ?_)<;>try simp only [go_sem,dff]|fail)
  | some r =>
    obtain ⟨hd,hp,ho,hdx,hdo⟩:=hyes r rfl
    simp only [Option.getD_some,Option.isSome_some] at f1 f2
    obtain ⟨g,g1,g2,g3,g5⟩:=law_outOpens hd hp ho hdo
    have hg:((flowIx x.flows p.frm p.to).bind fun k=>x.flows[k]?)=some g:=g1
    have f4:=c29 x p.frm p.to xb.2.1
    rw [hg] at f4
    simp only [Option.getD_some] at f4
    by_cases hl:(30:Int)<(g.down.inn.length:Int)
    · with_reducible repeat' (first|refine br ?_ ?_<;>intro h e<;>(try simp only [e,go_sem,dtt,hl])<;>clear e|rw [i64w (by omega)]|refine sd ?_<;>try simp only [go_sem,dtt,hl]|(first|refine cr (f1 ..) ?_|refine cr (f2 ..) ?_|refine cr (f3 ..) ?_|refine cr (f4 ..) ?_)<;>try simp only [go_sem,dtt,hl]|fail)
      all_goals first|done|omega|trace_state
    have f6:=c36 g.down.inn (by omega)
    have hth:textHeld g.down.inn=held g.down.inn:=by
      unfold textHeld
      have:txOk g.down.inn=true:=by have:=g2;simp only [strmOk,Bool.and_eq_true] at this;exact this.1
      rw [if_pos this]
    rw [hth] at f6
    by_cases hh:held g.down.inn=0
    rotate_left
    · have hh2:(0:Int)<(held g.down.inn:Int):=by omega
      with_reducible repeat' (first|refine br ?_ ?_<;>intro h e<;>(try simp only [e,go_sem,dtt,hh2])<;>clear e|rw [i64w (by omega)]|refine sd ?_<;>try simp only [go_sem,dtt,hh2]|(first|refine cr (f1 ..) ?_|refine cr (f2 ..) ?_|refine cr (f3 ..) ?_|refine cr (f4 ..) ?_|refine cr (f6 ..) ?_)<;>try simp only [go_sem,dtt,hh2]|fail)
      all_goals first|done|omega|trace_state
    obtain ⟨y,y1⟩:=g5 (by omega) hh
    have f5:=c23 x ⟨1,p.to,r.frm,g.down.inn.length,[121,101,115]⟩ xb (by simp)
    rw [y1] at f5
    have f8:=c32 g.down g2
    rw [hh] at f6
    simp only [Option.getD_some,Option.isSome_some] at f5
    with_reducible repeat' (first|refine br ?_ ?_<;>intro h e<;>(try simp only [e,go_sem,dtt])<;>clear e|rw [i64w (by omega)]|refine sd ?_<;>try simp only [go_sem,dtt]|(first|refine cr (f1 ..) ?_|refine cr (f2 ..) ?_|refine cr (f3 ..) ?_|refine cr (f4 ..) ?_|refine cr (f5 ..) ?_|refine cr (f6 ..) ?_|refine cr (f8 ..) ?_)<;>try simp only [go_sem,dtt]|fail)
    all_goals first|done|omega|trace_state
end Go.Proofs.YtfepdcpidkjklaaGreatDoor.W
namespace Go.Proofs.YtfepdcpidkjklaaGreatDoor.fnOutOpens
open Go Go.ChangeShapes Go.WideShapes Go.ChangeAt Go.RowKit Go.Proofs.YtfepdcpidkjklaaGreatDoor.W
theorem walk (v0:Value) (W:World) (hs:W.ShapedOpen Tryz.prog) (hL:laidMetH Tryz.prog Rows.fnOutOpensRow.laid W) (hv0:∃ code:M.B,VL.Den W noO noρ noH (.sl 1 (code.map M.byR)) v0) :
    Calls Tryz.prog 14 #[v0] W fun e W'=>e=.returned (.bool true)∧Below W.heap.size W W':=by
  obtain ⟨code,hdv0⟩:=hv0
  have:=Go.Proofs.YtfepdcpidkjklaaGreatDoor.W.FnR.calls (c14 code) (us:=[v0]) (gOk rfl hL hs) ⟨rfl,fun j a b ha hb=>by
    match j,ha,hb with
    | 0,ha,hb=>cases ha;cases hb;exact hdv0
    | j+1,ha,hb=>simp at ha⟩
  exact this
set_option maxRecDepth 100000 in
theorem contract (H:Type) (enc:TypeId × Value→H) (W:World) (base:Nat) (args:Array Value) (ds gs:List (DataW H)) (before:List MemPlace)
    (hval:∀ (j:Nat) t v,Tryz.f14.params[j]?=some t→args[j]?=some v→Value.okWide Tryz.prog W .any base t v)
    (hW:DataW.Whole enc Tryz.prog Tryz.f14.params.toList Rows.fnOutOpensSpec.vars false W args.toList ds gs before) (hL:laidMetH Tryz.prog Rows.fnOutOpensRow.laid W) (hs:W.ShapedOpen Tryz.prog) :
    Calls Tryz.prog 14 args W fun e W'=>∃ v,e=.returned v∧Rows.fnOutOpensSpec.post enc Tryz.prog Tryz.f14 false true false false W args v W':=by
  have hW':=hW
  obtain ⟨p,q,hA0,hV,rfl,hfz,hnd⟩:=hW
  have hA:DataW.TrodAll enc Tryz.prog W 0 (fun _=>true) true Tryz.f14.params.toList args.toList ds p:=hA0
  rw [Tryz.params14] at hA hval
  obtain ⟨v0,r0s,d0,d0s,p0,q0,hargs0,rfl,rfl,h0,r0⟩:=trodAll_cons hA
  obtain ⟨e1,e2,e3⟩:=trodAll_nil r0
  subst e1 e2 e3
  obtain rfl:args=#[v0]:=by cases args;simp_all
  obtain ⟨rfl,rfl⟩:=trodVars_none hV
  obtain ⟨a0,len0,cap0,hv0⟩:=okWide_slice Tryz.underlying22 (hval 0 22 v0 rfl rfl)
  have k0:=h0
  have lt0:∀ x∈p0,x.block<W.heap.size:=by obtain ⟨m,hm⟩:=k0;exact DataW.trod_lt m _ _ _ hm
  have hc0:=open_code h0 ⟨a0,len0,cap0,hv0⟩
  clear hA0
  refine (walk v0 W hs hL hc0).mono fun e W' ⟨he,bel⟩=>?_
  subst he
  exact ⟨_,rfl,_,_,_,[],_,[],hW',trodAll_mk1 (shut_bool Tryz.underlying4 _),(trodAll_cons_mk (Below.trod laidOut (by kernel_rfl) (of_decide_eq_true (by kernel_rfl)) k0 bel lt0) trodAll_mk0),rfl,bel.frame _,fun h=>by cases h⟩
theorem inP:(Rows.fnOutOpensRow.inPlace == Tryz.prog.inPlace 14)=true:=by kernel_rfl
theorem unf:(Rows.fnOutOpensRow.unfollowed == Tryz.prog.unfollowed 14)=true:=by kernel_rfl
theorem rcs:(Rows.fnOutOpensRow.recurses == Tryz.prog.recurses 14)=true:=by kernel_rfl
theorem nam:(Rows.fnOutOpensRow.named == Tryz.prog.varsNamed 14)=true:=by kernel_rfl
theorem lif:(Rows.fnOutOpensRow.lifted == Tryz.prog.liftsFinal)=true:=lifF
theorem pke:(Rows.fnOutOpensRow.plainKeys == Tryz.prog.plainKeys)=true:=pkeF
theorem mak:(Tryz.prog.make == some Rows.fnOutOpensRow.make)=true:=makF
theorem closed0:joinedFacts Tryz.prog 14 Tryz.f14 Rows.fnOutOpensSpec Rows.fnOutOpensRow=true:=by
  unfold joinedFacts
  rw [laidOut,mapF,inP,unf,rcs,nam,pke,stoF,mayF,lif,mak]
  kernel_rfl
theorem closed:joinedFacts Tryz.pinned.checked.prog 14 Tryz.f14 (OpenSpec.ofChange Rows.fnOutOpensSpec).bare Rows.fnOutOpensRow=true :=
  (show joinedFacts Tryz.pinned.checked.prog 14 Tryz.f14 (OpenSpec.ofChange Rows.fnOutOpensSpec).bare Rows.fnOutOpensRow=joinedFacts Tryz.prog 14 Tryz.f14 Rows.fnOutOpensSpec Rows.fnOutOpensRow by kernel_rfl).trans closed0
theorem door_met (os:Os) (args:Array Value):laidMetH Tryz.prog Rows.fnOutOpensRow.laid ((World.doorLaid Tryz.prog 400 os).forCall (fun _ _=>0) ⟨#[],args,[]⟩).memory :=
  laidMetH_of_parts3 (fuel:=8) (laidMet_of_run' 8 (by kernel_rfl) (by kernel_rfl)) (by kernel_rfl) (by kernel_rfl)
theorem reads (os:Os) {H:Type} (enc:TypeId × Value→H):∃ places,DataW.whole enc Tryz.prog ((World.doorLaid Tryz.prog 400 os).forCall (fun _ _=>0) ⟨#[],#[.slice none 0 0],[]⟩).memory Tryz.f14.params.toList Rows.fnOutOpensSpec.vars false #[Value.slice none 0 0].toList 8=some ([.nil],[],places) :=
  ⟨[],by kernel_rfl⟩
set_option maxRecDepth 100000 in
theorem lifted (os:Os) (started:os.Started) (H:Type) (enc:TypeId × Value→H) (F:Stop.Interp) :
    ReturnsInHanded {} Tryz.checked os 14 .any ((OpenSpec.ofChange Rows.fnOutOpensSpec).preRow enc Tryz.prog Tryz.f14 Rows.fnOutOpensRow.domain false Rows.fnOutOpensRow.laid) (((OpenSpec.ofChange Rows.fnOutOpensSpec).at F).post enc Tryz.prog Tryz.f14 false true false false):=by
  obtain ⟨places,hx⟩:=reads os enc
  refine returnsInHanded_of_row (C:=Tryz.checked) (s:=OpenSpec.ofChange Rows.fnOutOpensSpec) own started (by kernel_rfl) Tryz.func14
    (witness_row_atRef (enc:=enc) (C:=Tryz.checked) false (World.doorLaid Tryz.prog 400 os) #[.slice none 0 0] rfl (by kernel_rfl) (by kernel_rfl) (by kernel_rfl)
      (OpenSpec.preRow_of_cond 8 hx (by kernel_rfl) (fun k hk=>by cases hk) (by kernel_rfl) (door_met os _))) ?_
  intro W base args ds gs before hval hW _ _ _ hL hs _
  exact contract H enc W base args ds gs before hval hW hL hs
theorem said:Rows.FnOutOpensSaid :=
  OpenClaim.holds_of_cond 14 Tryz.f14 rfl rfl rfl rfl rfl rfl rfl ⟨rfl,rfl,rfl,rfl,rfl⟩ rfl rfl rfl rfl rfl (by kernel_rfl) Tryz.func14 closed
    (of_decide_eq_true (by kernel_rfl)) (by unfold Func.isWrapper;first|(rw [if_pos (by decide +kernel)];kernel_rfl)|(rw [if_neg (by decide +kernel)];exact ⟨rfl,rfl⟩))
    (fun os started H enc _ F=>by rw [OpenClaim.pre_eq_preRow];exact lifted os started H enc F)
theorem plain (f:FuncId) (fn:Func) (hf:Tryz.pinned.checked.prog.funcNamed "loop.example/ostiary/laws.FnOutOpens"=some f) (hfn:Tryz.pinned.checked.prog.funcs[f]?=some fn) :
    true=Tryz.pinned.checked.prog.looks []∧∀ (j:Nat) t,fn.params[j]?=some t→Tryz.pinned.checked.prog.wantsStandIn t=false:=by
  obtain rfl:f=14:=Option.some.inj ((show Tryz.prog.funcNamed "loop.example/ostiary/laws.FnOutOpens"=some 14 by kernel_rfl).symm.trans hf) |>.symm
  obtain rfl:fn=Tryz.f14:=(Option.some.inj (Tryz.func14.symm.trans hfn)).symm
  refine ⟨by kernel_rfl,fun j t ht=>?_⟩
  rw [Tryz.params14] at ht
  obtain rfl:t=22:=by simpa using Array.mem_of_getElem? ht
  exact (show Tryz.prog.wantsStandIn 22=false by kernel_rfl)
theorem card:Rows.FnOutOpensCardSaid :=
  Claim7.holds_tied_plain_at .later [] _ _ _ _ said (fun _ h=>by cases h) (by kernel_rfl) (fun _ h=>by cases h) fnOutOpens_row_tie rfl ⟨rfl,rfl⟩ (by kernel_rfl) rfl plain (by kernel_rfl)
end Go.Proofs.YtfepdcpidkjklaaGreatDoor.fnOutOpens
