/- FnPassOther: what is not for the door does not pass. Conditions: those of the row alone. -/
import Derived.Test.YtfepdcpidkjklaaGreatDoorX07
import Derived.Test.YtfepdcpidkjklaaGreatDoorX04
import Derived.Test.YtfepdcpidkjklaaGreatDoorCards
import Derived.Test.YtfepdcpidkjklaaGreatDoorTie
set_option linter.all false
namespace Go.Proofs.YtfepdcpidkjklaaGreatDoor.W
open Go Go.RowKit Go.Proofs Go.Proofs.YtfepdcpidkjklaaGreatDoor.VL Go.Proofs.YtfepdcpidkjklaaGreatDoor.M
attribute [local congr] optK_congr guardK_congr condK_congr runT_congr runD_congr wpI_congr CallV_congr LoopI_congr pureK_congr effK_congr calK_congr stepV_congr doV_congr exN_congr exB_congr retF_congr retQ_congr gK_congr condW_congr ldK_congr stoK_congr
attribute [local go_sem] argL_cons argL_nil argH_nil argH_cons chH_getH wpI_seq wpI_reg wpI_drw wpI_ret cond_k condW_t condW_f wpI_skip wpI_block wpI_exit wpI_loop exN_n exN_r exN_e exB_n exB_r exB_h exB_m runT_k kT_e runT_nil runD_k kD_e runD_nil step_u step_k gK_t gK_f do_mv do_bino bo_add bo_sub bo_mul bo_subu bo_quo bo_rem bo_xor bo_eql bo_neq bo_lss bo_leq bo_gtr bo_geq bo_cat bo_eqs bo_nes do_pick do_call do_cal calK_f do_box do_alloc do_ldk ldK_s do_stok stoK_s do_fad do_nilc do_not do_neg do_len do_lens do_ext do_eqs do_beq do_isn do_cvi do_sls do_idx do_mn do_mx do_build do_mkf do_s2b do_b2s do_slv do_iad do_bsl do_mks do_app ev_t ev_c app_some app_none
attribute [local go_sem] List.nil_append List.cons_append List.append_nil getL_hit getL_miss getH_nil getH_hit getH_miss nm_eq ne_eq Nat.reduceEqDiff not_false_eq_true Nat.reduceAdd Nat.add_zero Nat.zero_add if_true if_false ite_true ite_false pureK_s effK_s optK_s gdV_t gdV_f gdV_s pick_b ge_iff_le gt_iff_lt cond_true cond_false fresh_k cells_agg cells_int cells_bool cells_str cells_own cells_sl cells_nils ld_pv ld_pa ld_ip ldVar_t ldVar_f ldArr_t ldArr_f ldRow_t ldRow_f ldA_s ld1_s fad_pv fad_pa fad_ip nilc_pv nilc_pa nilc_ip not_b neg_i cvi_i ext_t retF_n retF_r
attribute [local go_sem] resV_k rvs_nil rvs_t rvs_c fstO_s consO_s resK_s resL_1 resL_2 resL_3 resL_4  Option.some.injEq List.map_cons List.map_nil List.all_cons List.all_nil Bool.and_true Bool.and_self Bool.not_true Bool.not_false Option.map_some Option.map_none sls_s slsG_s loV_n loV_i hiV_n hiV_i idx_s mn_i mx_i s2b_s b2s_s bytO_s bytes_nil bytes_cons conB_s slv_sl slv_own slv_nils slvG_s slvN_s slvO_s iad_sl iadG_map take_map drop_map List.length_map iad_own iad_view iadO_a iadW_a mks_i rowO_nils rowO_sl rowO_own rowA_a eq_self appG_nils appG_own appO_a guardP_T mapA_s bld_nil mkf_nil bldF_e fill_nil fill_cons mkf_e lens_s len_nils len_sl len_own len_view isn_nile isn_erre List.getElem?_cons_zero List.getElem?_cons_succ List.length_cons List.length_nil decide_true decide_false Int.toNat_natCast Int.cast_ofNat_Int Int.reduceLT Int.reduceLE Int.reduceEq Int.reduceAdd Int.reduceSub Int.reduceMul Int.reduceNeg Int.reduceToNat List.getD_cons_zero List.getD_cons_succ not_true_eq_false not_false_eq_true Bool.false_eq_true Bool.true_eq_false reduceCtorEq
attribute [local go_sem] E.row Pc.row Pair.row Part.row Strm.row Flw.row Pk.row Door.row Conv.row World.row Ev.row rdV E.eta Pc.eta Pair.eta Part.eta Strm.eta Pk.eta Flw.eta Conv.eta Door.eta World.eta Ev.eta
attribute [local go_sem] sub_ok st_pv st_pa stVar_v stArr_a Nat.le_refl List.drop_zero List.drop_succ_cons List.take_succ_cons List.take_zero setR Nat.reduceLeDiff
attribute [local go_sem] wk_bot wk2_bot wk1_bot wk_undef wk_tup_e wk2_agg_e wk_agg_e wk1_fn_e wk2_fn_e wk_fn_e wkl_nil wkl_cons wkh_var_e wkh_arr_e wkh_fresh_e wkh_dead_v wkh_dead_a wkh_dead_d wk0_undef wk0_int wk0_bool wk0_str wk0_nils wk0_nils_sl wk0_nilp wk0_nile wk0_erre wk0_sl wk0_iptr wk0_own wk0_view wk0_pv wk0_pa fzA_a fzW_a fzP_v wk0_own_sl wk0_view_sl wk0_pv_iptr WkS_nil WkS_cons WkN_nil WkN_cons nonB_nil nonB_cons getN_nil getN_hit getN_miss pinOk_0 pinOk_s and_true true_and and_self
attribute [local go_sem] bot_int one_int unt_int clo_int bot_bool one_bool unt_bool clo_bool bot_str one_str unt_str clo_str bot_nils one_nils unt_nils clo_nils bot_nilp one_nilp unt_nilp clo_nilp bot_nile one_nile unt_nile clo_nile bot_erre one_erre unt_erre clo_erre bot_raw one_raw unt_raw clo_raw bot_sl one_sl unt_sl clo_sl bot_own one_own unt_own clo_own bot_view one_view unt_view clo_view bot_pv one_pv unt_pv clo_pv bot_pa one_pa unt_pa clo_pa bot_iptr one_iptr unt_iptr clo_iptr unt_agg unt_fn one_fn
attribute [local go_sem] rn_tup rn_agg rn2_agg rn_fn rn2_fn rnfn1 rn_bot rn2_bot rn1_bot rn0_int rn0_bool rn0_str rn0_nils rn0_nilp rn0_nile rn0_erre rn0_sl rn0_iptr rn0_own rn0_view rn0_pv rn0_pa hrn_var hrn_arr hrn_dead outU_nil outU_cons deads_nil deads_cons bk_ge bk_lt nsF_0 nsF_s chH_0 chH_s chH_n newN_e andB_s eqR_nil eqR_i eqR_b eqR_s mapX_f mapX_t eqs_a beq_f beq_t live_arr live_var nsl_nil nsl_cons Nat.reduceMul Nat.reduceLT Nat.zero_le Nat.not_lt_zero
attribute [local go_sem] mV lD lA fD bN eX oP nP sR i0 s0
def ic12:IC:=sR [oP 4 (.mv (.c (.bool false)))] (.seq (sR [mV 17 0,oP 18 (.len (.t 17)),oP 19 (.bin .gtr (.t 18) (.c (.int .i64 1048576))),mV 20 19,⟨some 21,some (20,false),.mv (.t 1)⟩,⟨some 22,some (20,false),.len (.t 21)⟩,⟨some 23,some (20,false),.bin .gtr (.t 22) (.c (.int .i64 1048576))⟩,oP 24 (.pick (.t 20) (.c (.bool true)) (.t 23))] (.cond (.t 24) (sR [oP 4 (.mv (.c (.bool true)))] .ret) .skip)) (sR [mV 26 0,oP 27 (.call 37 [.t 26]),mV 25 27,eX 28 25 0,eX 29 25 1,oP 5 (.alloc 26 [.nils,.nils]),oP 6 (.alloc 30 [i0,i0,i0,i0,i0,i0,s0]),nP (.sto 2 (.t 5) (.t 28)),nP (.sto 7 (.t 6) (.t 29))] (sR [lA 31 2 5,lA 32 7 6,oP 33 (.call 38 [.t 31,.t 32]),mV 30 33,eX 34 30 0,eX 35 30 1,eX 36 30 2,oP 7 (.alloc 26 [.nils,.nils]),oP 8 (.alloc 30 [i0,i0,i0,i0,i0,i0,s0]),nP (.sto 2 (.t 7) (.t 34)),nP (.sto 7 (.t 8) (.t 35)),mV 9 36] (sR [lA 38 2 5,lA 39 7 6,oP 40 (.call 39 [.t 38,.t 39]),mV 37 40,eX 41 37 0,eX 42 37 1,eX 43 37 2,oP 10 (.alloc 26 [.nils,.nils]),oP 11 (.alloc 30 [i0,i0,i0,i0,i0,i0,s0]),nP (.sto 2 (.t 10) (.t 41)),nP (.sto 7 (.t 11) (.t 42)),mV 12 43] (.seq (sR [mV 44 12,mV 45 9,oP 46 (.beq true (.t 44) (.t 45)),mV 47 46,⟨some 48,some (47,false),.ld 7 true (.t 11)⟩,⟨some 49,some (47,false),.ld 7 true (.t 8)⟩,⟨some 50,some (47,false),.eqs true [.i,.i,.i,.i,.i,.i,.s] (.t 48) (.t 49)⟩,oP 51 (.pick (.t 47) (.c (.bool true)) (.t 50)),mV 52 51,⟨some 53,some (52,false),.ld 2 true (.t 10)⟩,⟨some 54,some (52,false),.ld 2 true (.t 7)⟩,⟨some 55,some (52,false),.call 19 [.t 53,.t 54]⟩,⟨some 56,some (52,false),.un .not (.t 55)⟩,oP 57 (.pick (.t 52) (.c (.bool true)) (.t 56)),mV 58 57,⟨some 59,some (58,false),.ld 2 true (.t 5)⟩,⟨some 60,some (58,false),.call 24 [.t 59]⟩,⟨some 61,some (58,false),.un .not (.t 60)⟩,oP 62 (.pick (.t 58) (.c (.bool true)) (.t 61))] (.cond (.t 62) (sR [mV 63 12,mV 64 9,oP 65 (.beq false (.t 63) (.t 64)),mV 66 65,⟨some 67,some (66,true),.ld 7 true (.t 11)⟩,⟨some 68,some (66,true),.ld 7 true (.t 8)⟩,⟨some 69,some (66,true),.eqs false [.i,.i,.i,.i,.i,.i,.s] (.t 67) (.t 68)⟩,oP 70 (.pick (.t 66) (.t 69) (.c (.bool false))),mV 71 70,⟨some 72,some (71,true),.ld 2 true (.t 10)⟩,⟨some 73,some (71,true),.ld 2 true (.t 7)⟩,⟨some 74,some (71,true),.call 19 [.t 72,.t 73]⟩,oP 75 (.pick (.t 71) (.t 74) (.c (.bool false))),mV 4 75] .ret) .skip)) (sR [mV 76 1,oP 77 (.call 42 [.t 76]),oP 13 (.alloc 30 [i0,i0,i0,i0,i0,i0,s0]),nP (.sto 7 (.t 13) (.t 77))] (.seq (sR [lA 78 7 13,oP 79 (.call 30 [.t 78]),oP 80 (.un .not (.t 79)),mV 81 80,⟨some 82,some (81,false),.fad 1 (.t 13)⟩,⟨some 83,some (81,false),.ld 2 true (.t 82)⟩,⟨some 84,some (81,false),.call 41 [.t 83]⟩,⟨some 85,some (81,false),.mv (.t 84)⟩,⟨some 86,some (85,true),.fad 3 (.t 13)⟩,⟨some 87,some (85,true),.ld 2 true (.t 86)⟩,⟨some 88,some (85,true),.call 43 [.t 87]⟩,⟨some 89,some (81,false),.pick (.t 85) (.t 88) (.c (.bool false))⟩,oP 90 (.pick (.t 81) (.c (.bool true)) (.t 89)),mV 91 90,⟨some 92,some (91,false),.fad 1 (.t 13)⟩,⟨some 93,some (91,false),.ld 2 true (.t 92)⟩,⟨some 94,some (91,false),.call 43 [.t 93]⟩,⟨some 95,some (91,false),.mv (.t 94)⟩,⟨some 96,some (95,true),.fad 3 (.t 13)⟩,⟨some 97,some (95,true),.ld 2 true (.t 96)⟩,⟨some 98,some (95,true),.call 33 [.t 97]⟩,⟨some 99,some (91,false),.pick (.t 95) (.t 98) (.c (.bool false))⟩,oP 100 (.pick (.t 91) (.c (.bool true)) (.t 99))] (.cond (.t 100) (sR [oP 4 (.mv (.c (.bool true)))] .ret) .skip)) (sR [lA 102 2 5,lA 103 7 13,oP 104 (.call 39 [.t 102,.t 103]),mV 101 104,eX 105 101 0,eX 106 101 1,eX 107 101 2,oP 14 (.alloc 26 [.nils,.nils]),oP 15 (.alloc 30 [i0,i0,i0,i0,i0,i0,s0]),nP (.sto 2 (.t 14) (.t 105)),nP (.sto 7 (.t 15) (.t 106)),mV 16 107] (sR [mV 108 16,oP 109 (.un .not (.t 108)),mV 110 109,⟨some 111,some (110,true),.ld 2 true (.t 14)⟩,⟨some 112,some (110,true),.ld 2 true (.t 5)⟩,⟨some 113,some (110,true),.call 19 [.t 111,.t 112]⟩,oP 114 (.pick (.t 110) (.t 113) (.c (.bool false))),mV 4 114] .ret)))))))))
theorem dg12:Dg Tryz.prog 12 Tryz.f12 ic12 [(.t 4)]:=⟨Tryz.func12,by kernel_rfl,by kernel_rfl⟩
theorem c12 (code more:B):FnR Tryz.prog G 12 [.sl 1 (code.map byR),.sl 1 (more.map byR)] (.bool true):=by
  refine mF dg12 Tryz.ntmps12 ?_
  simp only [ic12,go_sem]
  by_cases hc:(1048576:Int)<code.length
  · simp only [eq_true hc,go_sem]
  simp only [eq_false hc,go_sem]
  by_cases hm:(1048576:Int)<more.length
  · simp only [eq_true hm,go_sem]
  simp only [eq_false hm,go_sem]
  refine callO (c37 code (by omega)) [] 27 0 (by simp only [go_sem];first|done|simp) (by simp) (by rintro _ _ ⟨_,_,_,_,_,rfl⟩;simp) (by intro i hi;omega) ?_
  rintro _ _ ⟨d,p,⟨hb,hl3,hq⟩,hpl,rfl,rfl⟩
  simp only [go_sem]
  have f1:=c38 d p hb (fun _=>hl3) (by omega)
  have f2:=c39 d p hb (by omega)
  have xb:=doorPass_db d p
  have hyes:=fun r (h:(doorPass d p).2=some r)=>doorPass_yes h
  obtain ⟨⟨x,o⟩,hx⟩:∃ y,doorPass d p=y:=⟨_,rfl⟩
  rw [hx] at f1 f2 xb hyes
  have f3:=l19 x xb
  simp only at f1 f2 f3 hyes xb
  have f4:=c24 d hb
  have all:∀ b:Bool,(b == b)=true:=by decide
  generalize hbs:o.isSome=b at *
  generalize hrs:o.getD .zero=r at *
  cases hd:doorOk d
  · rw [hd] at f4
    with_reducible repeat' (first|refine br ?_ ?_<;>intro h e<;>(try simp only [e,go_sem,all])<;>clear e|rw [i64w (by omega)]|refine sd ?_<;>try simp only [go_sem,all]|(first|refine cr (f1 ..) ?_|refine cr (f2 ..) ?_|refine cr (f3 ..) ?_|refine cr (f4 ..) ?_)<;>try simp only [go_sem,all]|fail)
  rw [hd] at f4
  with_reducible repeat' (first|refine br ?_ ?_<;>intro h e<;>(try simp only [e,go_sem,all])<;>clear e|rw [i64w (by omega)]|refine sd ?_<;>try simp only [go_sem,all]|(first|refine cr (f1 ..) ?_|refine cr (f2 ..) ?_|refine cr (f3 ..) ?_|refine cr (f4 ..) ?_)<;>try simp only [go_sem,all]|fail)
  refine callO (c42 more (by omega)) [] 77 0 (by simp only [go_sem];first|done|simp) (by simp) (by rintro _ _ ⟨_,_,_,rfl⟩;simp) (by intro i hi;omega) ?_
  rintro _ _ ⟨k,hk,rfl,rfl⟩
  simp only [go_sem]
  have g1:=c30 k (by omega)
  have g2:=c39 d k hb (by omega)
  have g3:=l19 d hb
  cases hp:pkOk k
  · rw [hp] at g1
    with_reducible repeat' (first|refine br ?_ ?_<;>intro h e<;>(try simp only [e,go_sem])<;>clear e|rw [i64w (by omega)]|refine sd ?_<;>try simp only [go_sem]|(first|refine cr (g1 ..) ?_)<;>try simp only [go_sem]|fail)
  rw [hp] at g1
  have hno:=fun (h1:(k.frm.inside && k.to.outside)=false) (h2:(k.frm.outside && k.to.door)=false)=>(show doorPass d k=(d,none) by unfold doorPass;rw [if_pos (by rw [hd,hp];rfl)];exact law_other h1 h2)
  cases h1:k.frm.inside<;>cases h2:k.to.outside<;>cases h3:k.frm.outside<;>cases h4:k.to.door
  all_goals
    try rw [hno (by rw [h1,h2];rfl) (by rw [h3,h4];rfl)] at g2
    try simp only [Option.getD_none,Option.isSome_none] at g2
    with_reducible repeat' (first|refine br ?_ ?_<;>intro h e<;>(try simp only [e,go_sem,h1,h2,h3,h4])<;>clear e|rw [i64w (by omega)]|refine sd ?_<;>try simp only [go_sem,h1,h2,h3,h4]|(first|refine cr (g1 ..) ?_|refine cr (c41 ..) ?_|refine cr (c43 ..) ?_|refine cr (c33 ..) ?_|refine cr (g2 ..) ?_|refine cr (g3 ..) ?_)<;>try simp only [go_sem,h1,h2,h3,h4]|fail)
end Go.Proofs.YtfepdcpidkjklaaGreatDoor.W
namespace Go.Proofs.YtfepdcpidkjklaaGreatDoor.fnPassOther
open Go Go.ChangeShapes Go.WideShapes Go.ChangeAt Go.RowKit Go.Proofs.YtfepdcpidkjklaaGreatDoor.W
theorem walk (v0 v1:Value) (W:World) (hs:W.ShapedOpen Tryz.prog) (hL:laidMetH Tryz.prog Rows.fnPassOtherRow.laid W) (hv0:∃ code:M.B,VL.Den W noO noρ noH (.sl 1 (code.map M.byR)) v0) (hv1:∃ code:M.B,VL.Den W noO noρ noH (.sl 1 (code.map M.byR)) v1) :
    Calls Tryz.prog 12 #[v0,v1] W fun e W'=>e=.returned (.bool true)∧Below W.heap.size W W':=by
  obtain ⟨code,hdv0⟩:=hv0
  obtain ⟨more,hdv1⟩:=hv1
  have:=Go.Proofs.YtfepdcpidkjklaaGreatDoor.W.FnR.calls (c12 code more) (us:=[v0,v1]) (gOk rfl hL hs) ⟨rfl,fun j a b ha hb=>by
    match j,ha,hb with
    | 0,ha,hb=>cases ha;cases hb;exact hdv0
    | 1,ha,hb=>cases ha;cases hb;exact hdv1
    | j+2,ha,hb=>simp at ha⟩
  exact this
set_option maxRecDepth 100000 in
theorem contract (H:Type) (enc:TypeId × Value→H) (W:World) (base:Nat) (args:Array Value) (ds gs:List (DataW H)) (before:List MemPlace)
    (hval:∀ (j:Nat) t v,Tryz.f12.params[j]?=some t→args[j]?=some v→Value.okWide Tryz.prog W .any base t v)
    (hW:DataW.Whole enc Tryz.prog Tryz.f12.params.toList Rows.fnPassOtherSpec.vars false W args.toList ds gs before) (hL:laidMetH Tryz.prog Rows.fnPassOtherRow.laid W) (hs:W.ShapedOpen Tryz.prog) :
    Calls Tryz.prog 12 args W fun e W'=>∃ v,e=.returned v∧Rows.fnPassOtherSpec.post enc Tryz.prog Tryz.f12 false true false false W args v W':=by
  have hW':=hW
  obtain ⟨p,q,hA0,hV,rfl,hfz,hnd⟩:=hW
  have hA:DataW.TrodAll enc Tryz.prog W 0 (fun _=>true) true Tryz.f12.params.toList args.toList ds p:=hA0
  rw [Tryz.params12] at hA hval
  obtain ⟨v0,r0s,d0,d0s,p0,q0,hargs0,rfl,rfl,h0,r0⟩:=trodAll_cons hA
  obtain ⟨v1,r1s,d1,d1s,p1,q1,hargs1,rfl,rfl,h1,r1⟩:=trodAll_cons r0
  obtain ⟨e1,e2,e3⟩:=trodAll_nil r1
  subst e1 e2 e3
  obtain rfl:args=#[v0,v1]:=by cases args;simp_all
  obtain ⟨rfl,rfl⟩:=trodVars_none hV
  obtain ⟨a0,len0,cap0,hv0⟩:=okWide_slice Tryz.underlying22 (hval 0 22 v0 rfl rfl)
  have k0:=h0
  have lt0:∀ x∈p0,x.block<W.heap.size:=by obtain ⟨m,hm⟩:=k0;exact DataW.trod_lt m _ _ _ hm
  have hc0:=open_code h0 ⟨a0,len0,cap0,hv0⟩
  obtain ⟨a1,len1,cap1,hv1⟩:=okWide_slice Tryz.underlying22 (hval 1 22 v1 rfl rfl)
  have k1:=h1
  have lt1:∀ x∈p1,x.block<W.heap.size:=by obtain ⟨m,hm⟩:=k1;exact DataW.trod_lt m _ _ _ hm
  have hc1:=open_code h1 ⟨a1,len1,cap1,hv1⟩
  clear hA0
  refine (walk v0 v1 W hs hL hc0 hc1).mono fun e W' ⟨he,bel⟩=>?_
  subst he
  exact ⟨_,rfl,_,_,_,[],_,[],hW',trodAll_mk1 (shut_bool Tryz.underlying4 _),(trodAll_cons_mk (Below.trod laidOut (by kernel_rfl) (of_decide_eq_true (by kernel_rfl)) k0 bel lt0) (trodAll_cons_mk (Below.trod laidOut (by kernel_rfl) (of_decide_eq_true (by kernel_rfl)) k1 bel lt1) trodAll_mk0)),rfl,bel.frame _,fun h=>by cases h⟩
theorem inP:(Rows.fnPassOtherRow.inPlace == Tryz.prog.inPlace 12)=true:=by kernel_rfl
theorem unf:(Rows.fnPassOtherRow.unfollowed == Tryz.prog.unfollowed 12)=true:=by kernel_rfl
theorem rcs:(Rows.fnPassOtherRow.recurses == Tryz.prog.recurses 12)=true:=by kernel_rfl
theorem nam:(Rows.fnPassOtherRow.named == Tryz.prog.varsNamed 12)=true:=by kernel_rfl
theorem lif:(Rows.fnPassOtherRow.lifted == Tryz.prog.liftsFinal)=true:=lifF
theorem pke:(Rows.fnPassOtherRow.plainKeys == Tryz.prog.plainKeys)=true:=pkeF
theorem mak:(Tryz.prog.make == some Rows.fnPassOtherRow.make)=true:=makF
theorem closed0:joinedFacts Tryz.prog 12 Tryz.f12 Rows.fnPassOtherSpec Rows.fnPassOtherRow=true:=by
  unfold joinedFacts
  rw [laidOut,mapF,inP,unf,rcs,nam,pke,stoF,mayF,lif,mak]
  kernel_rfl
theorem closed:joinedFacts Tryz.pinned.checked.prog 12 Tryz.f12 (OpenSpec.ofChange Rows.fnPassOtherSpec).bare Rows.fnPassOtherRow=true :=
  (show joinedFacts Tryz.pinned.checked.prog 12 Tryz.f12 (OpenSpec.ofChange Rows.fnPassOtherSpec).bare Rows.fnPassOtherRow=joinedFacts Tryz.prog 12 Tryz.f12 Rows.fnPassOtherSpec Rows.fnPassOtherRow by kernel_rfl).trans closed0
theorem door_met (os:Os) (args:Array Value):laidMetH Tryz.prog Rows.fnPassOtherRow.laid ((World.doorLaid Tryz.prog 400 os).forCall (fun _ _=>0) ⟨#[],args,[]⟩).memory :=
  laidMetH_of_parts3 (fuel:=8) (laidMet_of_run' 8 (by kernel_rfl) (by kernel_rfl)) (by kernel_rfl) (by kernel_rfl)
theorem reads (os:Os) {H:Type} (enc:TypeId × Value→H):∃ places,DataW.whole enc Tryz.prog ((World.doorLaid Tryz.prog 400 os).forCall (fun _ _=>0) ⟨#[],#[.slice none 0 0,.slice none 0 0],[]⟩).memory Tryz.f12.params.toList Rows.fnPassOtherSpec.vars false #[Value.slice none 0 0,Value.slice none 0 0].toList 8=some ([.nil,.nil],[],places) :=
  ⟨[],by kernel_rfl⟩
set_option maxRecDepth 100000 in
theorem lifted (os:Os) (started:os.Started) (H:Type) (enc:TypeId × Value→H) (F:Stop.Interp) :
    ReturnsInHanded {} Tryz.checked os 12 .any ((OpenSpec.ofChange Rows.fnPassOtherSpec).preRow enc Tryz.prog Tryz.f12 Rows.fnPassOtherRow.domain false Rows.fnPassOtherRow.laid) (((OpenSpec.ofChange Rows.fnPassOtherSpec).at F).post enc Tryz.prog Tryz.f12 false true false false):=by
  obtain ⟨places,hx⟩:=reads os enc
  refine returnsInHanded_of_row (C:=Tryz.checked) (s:=OpenSpec.ofChange Rows.fnPassOtherSpec) own started (by kernel_rfl) Tryz.func12
    (witness_row_atRef (enc:=enc) (C:=Tryz.checked) false (World.doorLaid Tryz.prog 400 os) #[.slice none 0 0,.slice none 0 0] rfl (by kernel_rfl) (by kernel_rfl) (by kernel_rfl)
      (OpenSpec.preRow_of_cond 8 hx (by kernel_rfl) (fun k hk=>by cases hk) (by kernel_rfl) (door_met os _))) ?_
  intro W base args ds gs before hval hW _ _ _ hL hs _
  exact contract H enc W base args ds gs before hval hW hL hs
theorem said:Rows.FnPassOtherSaid :=
  OpenClaim.holds_of_cond 12 Tryz.f12 rfl rfl rfl rfl rfl rfl rfl ⟨rfl,rfl,rfl,rfl,rfl⟩ rfl rfl rfl rfl rfl (by kernel_rfl) Tryz.func12 closed
    (of_decide_eq_true (by kernel_rfl)) (by unfold Func.isWrapper;first|(rw [if_pos (by decide +kernel)];kernel_rfl)|(rw [if_neg (by decide +kernel)];exact ⟨rfl,rfl⟩))
    (fun os started H enc _ F=>by rw [OpenClaim.pre_eq_preRow];exact lifted os started H enc F)
theorem plain (f:FuncId) (fn:Func) (hf:Tryz.pinned.checked.prog.funcNamed "loop.example/ostiary/laws.FnPassOther"=some f) (hfn:Tryz.pinned.checked.prog.funcs[f]?=some fn) :
    true=Tryz.pinned.checked.prog.looks []∧∀ (j:Nat) t,fn.params[j]?=some t→Tryz.pinned.checked.prog.wantsStandIn t=false:=by
  obtain rfl:f=12:=Option.some.inj ((show Tryz.prog.funcNamed "loop.example/ostiary/laws.FnPassOther"=some 12 by kernel_rfl).symm.trans hf) |>.symm
  obtain rfl:fn=Tryz.f12:=(Option.some.inj (Tryz.func12.symm.trans hfn)).symm
  refine ⟨by kernel_rfl,fun j t ht=>?_⟩
  rw [Tryz.params12] at ht
  obtain rfl:t=22:=by simpa using Array.mem_of_getElem? ht
  exact (show Tryz.prog.wantsStandIn 22=false by kernel_rfl)
theorem card:Rows.FnPassOtherCardSaid :=
  Claim7.holds_tied_plain_at .later [] _ _ _ _ said (fun _ h=>by cases h) (by kernel_rfl) (fun _ h=>by cases h) fnPassOther_row_tie rfl ⟨rfl,rfl⟩ (by kernel_rfl) rfl plain (by kernel_rfl)
end Go.Proofs.YtfepdcpidkjklaaGreatDoor.fnPassOther
