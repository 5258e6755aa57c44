/- FnWorldIdle: events that cannot be change nothing. Conditions: those of the row alone. -/
import Derived.Test.YtggifndkolojmaaGreatDoorX07
import Derived.Test.YtggifndkolojmaaGreatDoorX04
import Derived.Test.YtggifndkolojmaaGreatDoorCards
import Derived.Test.YtggifndkolojmaaGreatDoorTie
set_option linter.all false
namespace Go.Proofs.YtggifndkolojmaaGreatDoor.W
open Go Go.RowKit Go.Proofs Go.Proofs.YtggifndkolojmaaGreatDoor.VL Go.Proofs.YtggifndkolojmaaGreatDoor.M
attribute [local congr] optK_congr guardK_congr condK_congr runT_congr runD_congr wpI_congr CallV_congr LoopI_congr pureK_congr effK_congr calK_congr stepV_congr doV_congr exN_congr exB_congr retF_congr retQ_congr gK_congr condW_congr ldK_congr stoK_congr
attribute [local go_sem] argL_cons argL_nil argH_nil argH_cons chH_getH wpI_seq wpI_reg wpI_drw wpI_ret cond_k condW_t condW_f wpI_skip wpI_block wpI_exit wpI_loop exN_n exN_r exN_e exB_n exB_r exB_h exB_m runT_k kT_e runT_nil runD_k kD_e runD_nil step_u step_k gK_t gK_f do_mv do_bino bo_add bo_sub bo_mul bo_subu bo_quo bo_rem bo_xor bo_eql bo_neq bo_lss bo_leq bo_gtr bo_geq bo_cat bo_eqs bo_nes do_pick do_call do_cal calK_f do_box do_alloc do_ldk ldK_s do_stok stoK_s do_fad do_nilc do_not do_neg do_len do_lens do_ext do_eqs do_beq do_isn do_cvi do_sls do_idx do_mn do_mx do_build do_mkf do_s2b do_b2s do_slv do_iad do_bsl do_mks do_app ev_t ev_c app_some app_none
attribute [local go_sem] List.nil_append List.cons_append List.append_nil getL_hit getL_miss getH_nil getH_hit getH_miss nm_eq ne_eq Nat.reduceEqDiff not_false_eq_true Nat.reduceAdd Nat.add_zero Nat.zero_add if_true if_false ite_true ite_false pureK_s effK_s optK_s gdV_t gdV_f gdV_s pick_b ge_iff_le gt_iff_lt cond_true cond_false fresh_k cells_agg cells_int cells_bool cells_str cells_own cells_sl cells_nils ld_pv ld_pa ld_ip ldVar_t ldVar_f ldArr_t ldArr_f ldRow_t ldRow_f ldA_s ld1_s fad_pv fad_pa fad_ip nilc_pv nilc_pa nilc_ip not_b neg_i cvi_i ext_t retF_n retF_r
attribute [local go_sem] resV_k rvs_nil rvs_t rvs_c fstO_s consO_s resK_s resL_1 resL_2 resL_3 resL_4  Option.some.injEq List.map_cons List.map_nil List.all_cons List.all_nil Bool.and_true Bool.and_self Bool.not_true Bool.not_false Option.map_some Option.map_none sls_s slsG_s loV_n loV_i hiV_n hiV_i idx_s mn_i mx_i s2b_s b2s_s bytO_s bytes_nil bytes_cons conB_s slv_sl slv_own slv_nils slvG_s slvN_s slvO_s iad_sl iadG_map take_map drop_map List.length_map iad_own iad_view iadO_a iadW_a mks_i rowO_nils rowO_sl rowO_own rowA_a eq_self appG_nils appG_own appO_a guardP_T mapA_s bld_nil mkf_nil bldF_e fill_nil fill_cons mkf_e lens_s len_nils len_sl len_own len_view isn_nile isn_erre List.getElem?_cons_zero List.getElem?_cons_succ List.length_cons List.length_nil decide_true decide_false Int.toNat_natCast Int.cast_ofNat_Int Int.reduceLT Int.reduceLE Int.reduceEq Int.reduceAdd Int.reduceSub Int.reduceMul Int.reduceNeg Int.reduceToNat List.getD_cons_zero List.getD_cons_succ not_true_eq_false not_false_eq_true Bool.false_eq_true Bool.true_eq_false reduceCtorEq
attribute [local go_sem] E.row Pc.row Pair.row Part.row Strm.row Flw.row Pk.row Door.row Conv.row World.row Ev.row rdV E.eta Pc.eta Pair.eta Part.eta Strm.eta Pk.eta Flw.eta Conv.eta Door.eta World.eta Ev.eta
attribute [local go_sem] sub_ok st_pv st_pa stVar_v stArr_a Nat.le_refl List.drop_zero List.drop_succ_cons List.take_succ_cons List.take_zero setR Nat.reduceLeDiff
attribute [local go_sem] wk_bot wk2_bot wk1_bot wk_undef wk_tup_e wk2_agg_e wk_agg_e wk1_fn_e wk2_fn_e wk_fn_e wkl_nil wkl_cons wkh_var_e wkh_arr_e wkh_fresh_e wkh_dead_v wkh_dead_a wkh_dead_d wk0_undef wk0_int wk0_bool wk0_str wk0_nils wk0_nils_sl wk0_nilp wk0_nile wk0_erre wk0_sl wk0_iptr wk0_own wk0_view wk0_pv wk0_pa fzA_a fzW_a fzP_v wk0_own_sl wk0_view_sl wk0_pv_iptr WkS_nil WkS_cons WkN_nil WkN_cons nonB_nil nonB_cons getN_nil getN_hit getN_miss pinOk_0 pinOk_s and_true true_and and_self
attribute [local go_sem] bot_int one_int unt_int clo_int bot_bool one_bool unt_bool clo_bool bot_str one_str unt_str clo_str bot_nils one_nils unt_nils clo_nils bot_nilp one_nilp unt_nilp clo_nilp bot_nile one_nile unt_nile clo_nile bot_erre one_erre unt_erre clo_erre bot_raw one_raw unt_raw clo_raw bot_sl one_sl unt_sl clo_sl bot_own one_own unt_own clo_own bot_view one_view unt_view clo_view bot_pv one_pv unt_pv clo_pv bot_pa one_pa unt_pa clo_pa bot_iptr one_iptr unt_iptr clo_iptr unt_agg unt_fn one_fn
attribute [local go_sem] rn_tup rn_agg rn2_agg rn_fn rn2_fn rnfn1 rn_bot rn2_bot rn1_bot rn0_int rn0_bool rn0_str rn0_nils rn0_nilp rn0_nile rn0_erre rn0_sl rn0_iptr rn0_own rn0_view rn0_pv rn0_pa hrn_var hrn_arr hrn_dead outU_nil outU_cons deads_nil deads_cons bk_ge bk_lt nsF_0 nsF_s chH_0 chH_s chH_n newN_e andB_s eqR_nil eqR_i eqR_b eqR_s mapX_f mapX_t eqs_a beq_f beq_t live_arr live_var nsl_nil nsl_cons Nat.reduceMul Nat.reduceLT Nat.zero_le Nat.not_lt_zero
attribute [local go_sem] mV lD lA fD bN eX oP nP sR i0 s0
def ic6:IC:=sR [oP 2 (.mv (.c (.bool false)))] (.seq (sR [mV 14 0,oP 15 (.len (.t 14)),oP 16 (.bin .gtr (.t 15) (.c (.int .i64 1048576)))] (.cond (.t 16) (sR [oP 2 (.mv (.c (.bool true)))] .ret) .skip)) (sR [mV 18 0,oP 19 (.call 19 [.t 18]),mV 17 19,eX 20 17 0,eX 21 17 1,oP 3 (.alloc 33 [.nils,.nils,.nils,.nils]),oP 4 (.alloc 56 [i0,i0,i0,i0,i0,i0,i0,i0,i0,i0,s0]),nP (.sto 4 (.t 3) (.t 20)),nP (.sto 11 (.t 4) (.t 21))] (sR [lA 22 4 3,lA 23 11 4,oP 24 (.call 20 [.t 22,.t 23]),oP 5 (.alloc 33 [.nils,.nils,.nils,.nils]),nP (.sto 4 (.t 5) (.t 24))] (.seq (.seq (.drw [0,0,0,6,15,31,63,127,255,511,1023,2047,4095,8191,16383,32767,65535] [(0,lA 25 4 5),(1,lA 26 4 3),(2,lA 27 11 4),(3,oP 28 (.call 21 [.t 26,.t 27])),(4,oP 29 (.call 13 [.t 25,.t 28])),(5,oP 30 (.un .not (.t 29))),(6,mV 31 30),(7,⟨some 32,some (31,false),.ld 4 true (.t 3)⟩),(8,⟨some 33,some (31,false),.call 22 [.t 32]⟩),(9,⟨some 34,some (31,false),.un .not (.t 33)⟩),(10,oP 35 (.pick (.t 31) (.c (.bool true)) (.t 34))),(11,mV 36 35),(12,⟨some 37,some (36,false),.fad 0 (.t 3)⟩),(13,⟨some 38,some (36,false),.ld 1 false (.t 37)⟩),(14,⟨some 39,some (36,false),.len (.t 38)⟩),(15,⟨some 40,some (36,false),.bin .eql (.t 39) (.c i0)⟩),(16,oP 41 (.pick (.t 36) (.c (.bool true)) (.t 40)))]) (.cond (.t 41) (.seq (.drw [0,0,0,6,15,31] [(0,lA 42 4 5),(1,lA 43 4 3),(2,lA 44 11 4),(3,oP 45 (.call 21 [.t 43,.t 44])),(4,oP 46 (.call 13 [.t 42,.t 45])),(5,mV 2 46)]) .ret) .skip)) (sR [fD 47 0 3,lD 48 1 47,oP 49 (.iad 10 (.t 48) (.c i0)),fD 50 2 49,lA 51 2 50,oP 52 (.build [i0,i0] [(0,(1,.c (.int .i64 9))),(1,(1,.c (.int .i64 10)))]),oP 53 (.build [i0,i0,i0,i0,i0,i0,s0] [(0,(1,.c (.int .i64 1))),(1,(2,.t 51)),(3,(2,.t 52)),(6,(1,.c (.str [97])))]),oP 6 (.alloc 54 [i0,i0,i0,i0,i0,i0,s0]),nP (.sto 7 (.t 6) (.t 53))] (sR [oP 54 (.build [i0,i0] [(0,(1,.c (.int .i64 6))),(1,(1,.c (.int .i64 9)))]),fD 55 0 3,lD 56 1 55,oP 57 (.iad 10 (.t 56) (.c i0)),fD 58 0 57,lA 59 2 58,oP 60 (.build [i0,i0,i0,i0,i0,i0,s0] [(0,(1,.c (.int .i64 1))),(1,(2,.t 54)),(3,(2,.t 59)),(6,(1,.c (.str [97])))]),oP 7 (.alloc 54 [i0,i0,i0,i0,i0,i0,s0]),nP (.sto 7 (.t 7) (.t 60))] (sR [lA 61 4 3,oP 62 (.build [i0,i0,i0,i0,i0,i0,i0,i0,i0,i0,s0] [(0,(1,.c (.int .i64 7)))]),oP 63 (.call 20 [.t 61,.t 62]),oP 8 (.alloc 33 [.nils,.nils,.nils,.nils]),nP (.sto 4 (.t 8) (.t 63))] (sR [lA 64 4 3,fD 65 3 3,lD 66 1 65,oP 67 (.len (.t 66)),oP 68 (.build [i0,i0,i0,i0,i0,i0,i0,i0,i0,i0,s0] [(0,(1,.c (.int .i64 3))),(1,(1,.t 67))]),oP 69 (.call 20 [.t 64,.t 68]),oP 9 (.alloc 33 [.nils,.nils,.nils,.nils]),nP (.sto 4 (.t 9) (.t 69))] (sR [lA 70 4 3,fD 71 0 3,lD 72 1 71,oP 73 (.len (.t 72)),oP 74 (.build [i0,i0,i0,i0,i0,i0,i0,i0,i0,i0,s0] [(0,(1,.c (.int .i64 1))),(1,(1,.t 73)),(3,(1,.c (.int .i64 5)))]),oP 75 (.call 20 [.t 70,.t 74]),oP 10 (.alloc 33 [.nils,.nils,.nils,.nils]),nP (.sto 4 (.t 10) (.t 75))] (sR [lA 76 4 3,oP 77 (.build [i0,i0,i0,i0,i0,i0,i0,i0,i0,i0,s0] [(0,(1,.c (.int .i64 1)))]),oP 78 (.call 20 [.t 76,.t 77]),oP 11 (.alloc 33 [.nils,.nils,.nils,.nils]),nP (.sto 4 (.t 11) (.t 78))] (sR [lA 79 4 3,lA 80 7 6,oP 81 (.build [i0,i0,i0,i0,i0,i0,i0,i0,i0,i0,s0] [(0,(1,.c (.int .i64 6))),(4,(7,.t 80))]),oP 82 (.call 20 [.t 79,.t 81]),oP 12 (.alloc 33 [.nils,.nils,.nils,.nils]),nP (.sto 4 (.t 12) (.t 82))] (sR [lA 83 4 3,lA 84 7 7,oP 85 (.build [i0,i0,i0,i0,i0,i0,i0,i0,i0,i0,s0] [(0,(1,.c (.int .i64 6))),(4,(7,.t 84))]),oP 86 (.call 20 [.t 83,.t 85]),oP 13 (.alloc 33 [.nils,.nils,.nils,.nils]),nP (.sto 4 (.t 13) (.t 86))] (sR [lA 87 4 8,lA 88 4 3,oP 89 (.call 13 [.t 87,.t 88]),mV 90 89,⟨some 91,some (90,true),.ld 4 true (.t 9)⟩,⟨some 92,some (90,true),.ld 4 true (.t 3)⟩,⟨some 93,some (90,true),.call 13 [.t 91,.t 92]⟩,oP 94 (.pick (.t 90) (.t 93) (.c (.bool false))),mV 95 94,⟨some 96,some (95,true),.ld 4 true (.t 10)⟩,⟨some 97,some (95,true),.ld 4 true (.t 3)⟩,⟨some 98,some (95,true),.call 13 [.t 96,.t 97]⟩,oP 99 (.pick (.t 95) (.t 98) (.c (.bool false))),mV 100 99,⟨some 101,some (100,true),.ld 4 true (.t 11)⟩,⟨some 102,some (100,true),.ld 4 true (.t 3)⟩,⟨some 103,some (100,true),.call 13 [.t 101,.t 102]⟩,oP 104 (.pick (.t 100) (.t 103) (.c (.bool false))),mV 105 104,⟨some 106,some (105,true),.ld 4 true (.t 12)⟩,⟨some 107,some (105,true),.ld 4 true (.t 3)⟩,⟨some 108,some (105,true),.call 13 [.t 106,.t 107]⟩,oP 109 (.pick (.t 105) (.t 108) (.c (.bool false))),mV 110 109,⟨some 111,some (110,true),.ld 4 true (.t 13)⟩,⟨some 112,some (110,true),.ld 4 true (.t 3)⟩,⟨some 113,some (110,true),.call 13 [.t 111,.t 112]⟩,oP 114 (.pick (.t 110) (.t 113) (.c (.bool false))),mV 2 114] .ret)))))))))))))
theorem dg6:Dg Tryz.prog 6 Tryz.f6 ic6 [(.t 2)]:=⟨Tryz.func6,by kernel_rfl,by kernel_rfl⟩
theorem c6 (code:B):FnR Tryz.prog G 6 [.sl 1 (code.map byR)] (.bool true):=by
  refine mF dg6 Tryz.ntmps6 ?_
  simp only [ic6,go_sem]
  by_cases hc:(1048576:Int)<code.length
  · simp only [eq_true hc,go_sem]
  simp only [eq_false hc,go_sem]
  refine callO (c19 code (by omega)) [] 19 0 (by simp only [go_sem];first|done|simp) (by simp) (by rintro _ _ ⟨_,_,_,_,_,rfl⟩;simp) (by intro i hi;omega) ?_
  rintro _ _ ⟨w,e,⟨hd,hz⟩,het,rfl,rfl⟩
  simp only [go_sem]
  have hq:worldOk w=true→∃ X,WX X w:=fun h=>(hd.q h).imp fun X hx=>hx.x
  have f1:=r20 w e hz.s hq (by omega)
  have f2:=r21 w e hz.s hq (by omega)
  have f3:=c22 w hz.s
  have f4:=c13 (worldDo w e) (do_wb hd e)
  cases hok:worldOk w with
  | false =>
    rw [hok] at f3
    generalize worldDo w e=x at *
    with_reducible repeat' (first|refine br ?_ ?_<;>intro h e<;>(try simp only [e,go_sem])<;>clear e|rw [i64w (by omega)]|refine sd ?_<;>try simp only [go_sem]|(first|refine cr (f1 ..) ?_|refine cr (f2 ..) ?_|refine cr (f3 ..) ?_|refine cr (f4 ..) ?_)<;>try simp only [go_sem]|fail)
  | true =>
    rw [hok] at f3
    obtain ⟨X,hx⟩:=hd.q hok
    have hxd:=hx.do e
    rw [(worldDo_e w e).1 hok] at f1 f2 f4
    obtain ⟨x,hxe⟩:∃ x,x=wDo w e:=⟨_,rfl⟩
    rw [← hxe] at f1 f2 f4 hxd
    have hil:0<w.convs.length:=hz.c1
    have hg:w.convs.getD 0 default=w.convs[0]:=by simp [List.getD,hil]
    have hin:=(convOk_iff.1 (hx.x.cv _ (List.getElem_mem hil))).1.1
    obtain ⟨l1,l2,l3,l4,l5,l6⟩:=law_idle (List.getElem?_eq_getElem hil) hin
    have d:=fun (e:Ev) (h:wDo w e=w) (ht:e.pkt.text.length≤2000000)=>h▸x20 w e hx.x hok ht
    have hz0:((w.convs.length:Int)=0)=False:=eq_false (by omega)
    have fz:=c13 w (wx_wb hx.x)
    generalize w.convs[0]=c at *
    have di:∀ e:Ev,wDo w e=w→e.pkt.text.length≤2000000→FnR Tryz.prog G 20 [.agg [.sl 10 (w.convs.map Conv.row),.sl 3 (w.door.map.map Pair.row),.sl 8 (w.door.flows.map Flw.row),.sl 7 (w.nets.map Pk.row)],.agg [.int .i64 e.kind,.int .i64 e.a,.int .i64 e.b,.int .i64 e.c,.int .i64 e.pkt.kind,.int .i64 e.pkt.frm.a,.int .i64 e.pkt.frm.p,.int .i64 e.pkt.to.a,.int .i64 e.pkt.to.p,.int .i64 e.pkt.at_,.str e.pkt.text]] (.agg [.sl 10 (w.convs.map Conv.row),.sl 3 (w.door.map.map Pair.row),.sl 8 (w.door.flows.map Flw.row),.sl 7 (w.nets.map Pk.row)]):=fun e h ht=>by
      have:=x20 w e hx.x hok ht
      rwa [h] at this
    clear d
    have d1:=di ⟨7,0,0,0,.zero⟩ l1 (by simp [Pk.zero])
    have d2:=di _ l2 (by simp [Pk.zero])
    have d3:=di _ l3 (by simp [Pk.zero])
    have d4:=di _ l4 (by simp [Pk.zero])
    have d5:=di _ l5 (by simp)
    have d6:=di _ l6 (by simp)
    simp only [Pk.zero,E.zero] at d1 d2 d3 d4
    clear hxe hq di l1 l2 l3 l4 l5 l6
    with_reducible repeat' (first|refine br ?_ ?_<;>intro h e<;>(try simp only [e,go_sem,hg,getD_mp hil,hz0])<;>clear e|rw [i64w (by omega)]|refine sd ?_<;>try simp only [go_sem,hg,getD_mp hil,hz0]|(first|refine cr (f1 ..) ?_|refine cr (f2 ..) ?_|refine cr (f3 ..) ?_|refine cr (f4 ..) ?_|refine cr (d1 ..) ?_|refine cr (d2 ..) ?_|refine cr (d3 ..) ?_|refine cr (d4 ..) ?_|refine cr (d5 ..) ?_|refine cr (d6 ..) ?_|refine cr (fz ..) ?_)<;>try simp only [go_sem,hg,getD_mp hil,hz0]|fail)
end Go.Proofs.YtggifndkolojmaaGreatDoor.W
namespace Go.Proofs.YtggifndkolojmaaGreatDoor.fnWorldIdle
open Go Go.ChangeShapes Go.WideShapes Go.ChangeAt Go.RowKit Go.Proofs.YtggifndkolojmaaGreatDoor.W
theorem walk (v0:Value) (W:World) (hs:W.ShapedOpen Tryz.prog) (hL:laidMetH Tryz.prog Rows.fnWorldIdleRow.laid W) (hv0:∃ code:M.B,VL.Den W noO noρ noH (.sl 1 (code.map M.byR)) v0) :
    Calls Tryz.prog 6 #[v0] W fun e W'=>e=.returned (.bool true)∧Below W.heap.size W W':=by
  obtain ⟨code,hdv0⟩:=hv0
  have:=Go.Proofs.YtggifndkolojmaaGreatDoor.W.FnR.calls (c6 code) (us:=[v0]) (gOk rfl hL hs) ⟨rfl,fun j a b ha hb=>by
    match j,ha,hb with
    | 0,ha,hb=>cases ha;cases hb;exact hdv0
    | j+1,ha,hb=>simp at ha⟩
  exact this
set_option maxRecDepth 100000 in
theorem contract (H:Type) (enc:TypeId × Value→H) (W:World) (base:Nat) (args:Array Value) (ds gs:List (DataW H)) (before:List MemPlace)
    (hval:∀ (j:Nat) t v,Tryz.f6.params[j]?=some t→args[j]?=some v→Value.okWide Tryz.prog W .any base t v)
    (hW:DataW.Whole enc Tryz.prog Tryz.f6.params.toList Rows.fnWorldIdleSpec.vars false W args.toList ds gs before) (hL:laidMetH Tryz.prog Rows.fnWorldIdleRow.laid W) (hs:W.ShapedOpen Tryz.prog) :
    Calls Tryz.prog 6 args W fun e W'=>∃ v,e=.returned v∧Rows.fnWorldIdleSpec.post enc Tryz.prog Tryz.f6 false true false false W args v W':=by
  have hW':=hW
  obtain ⟨p,q,hA0,hV,rfl,hfz,hnd⟩:=hW
  have hA:DataW.TrodAll enc Tryz.prog W 0 (fun _=>true) true Tryz.f6.params.toList args.toList ds p:=hA0
  rw [Tryz.params6] at hA hval
  obtain ⟨v0,r0s,d0,d0s,p0,q0,hargs0,rfl,rfl,h0,r0⟩:=trodAll_cons hA
  obtain ⟨e1,e2,e3⟩:=trodAll_nil r0
  subst e1 e2 e3
  obtain rfl:args=#[v0]:=by cases args;simp_all
  obtain ⟨rfl,rfl⟩:=trodVars_none hV
  obtain ⟨a0,len0,cap0,hv0⟩:=okWide_slice Tryz.underlying22 (hval 0 22 v0 rfl rfl)
  have k0:=h0
  have lt0:∀ x∈p0,x.block<W.heap.size:=by obtain ⟨m,hm⟩:=k0;exact DataW.trod_lt m _ _ _ hm
  have hc0:=open_code h0 ⟨a0,len0,cap0,hv0⟩
  clear hA0
  refine (walk v0 W hs hL hc0).mono fun e W' ⟨he,bel⟩=>?_
  subst he
  exact ⟨_,rfl,_,_,_,[],_,[],hW',trodAll_mk1 (shut_bool Tryz.underlying4 _),(trodAll_cons_mk (Below.trod laidOut (by kernel_rfl) (of_decide_eq_true (by kernel_rfl)) k0 bel lt0) trodAll_mk0),rfl,bel.frame _,fun h=>by cases h⟩
theorem inP:(Rows.fnWorldIdleRow.inPlace == Tryz.prog.inPlace 6)=true:=by kernel_rfl
theorem unf:(Rows.fnWorldIdleRow.unfollowed == Tryz.prog.unfollowed 6)=true:=by kernel_rfl
theorem rcs:(Rows.fnWorldIdleRow.recurses == Tryz.prog.recurses 6)=true:=by kernel_rfl
theorem nam:(Rows.fnWorldIdleRow.named == Tryz.prog.varsNamed 6)=true:=by kernel_rfl
theorem lif:(Rows.fnWorldIdleRow.lifted == Tryz.prog.liftsFinal)=true:=lifF
theorem pke:(Rows.fnWorldIdleRow.plainKeys == Tryz.prog.plainKeys)=true:=pkeF
theorem mak:(Tryz.prog.make == some Rows.fnWorldIdleRow.make)=true:=makF
theorem closed0:joinedFacts Tryz.prog 6 Tryz.f6 Rows.fnWorldIdleSpec Rows.fnWorldIdleRow=true:=by
  unfold joinedFacts
  rw [laidOut,mapF,inP,unf,rcs,nam,pke,stoF,mayF,lif,mak]
  kernel_rfl
theorem closed:joinedFacts Tryz.pinned.checked.prog 6 Tryz.f6 (OpenSpec.ofChange Rows.fnWorldIdleSpec).bare Rows.fnWorldIdleRow=true :=
  (show joinedFacts Tryz.pinned.checked.prog 6 Tryz.f6 (OpenSpec.ofChange Rows.fnWorldIdleSpec).bare Rows.fnWorldIdleRow=joinedFacts Tryz.prog 6 Tryz.f6 Rows.fnWorldIdleSpec Rows.fnWorldIdleRow by kernel_rfl).trans closed0
theorem door_met (os:Os) (args:Array Value):laidMetH Tryz.prog Rows.fnWorldIdleRow.laid ((World.doorLaid Tryz.prog 400 os).forCall (fun _ _=>0) ⟨#[],args,[]⟩).memory :=
  laidMetH_of_parts3 (fuel:=8) (laidMet_of_run' 8 (by kernel_rfl) (by kernel_rfl)) (by kernel_rfl) (by kernel_rfl)
theorem reads (os:Os) {H:Type} (enc:TypeId × Value→H):∃ places,DataW.whole enc Tryz.prog ((World.doorLaid Tryz.prog 400 os).forCall (fun _ _=>0) ⟨#[],#[.slice none 0 0],[]⟩).memory Tryz.f6.params.toList Rows.fnWorldIdleSpec.vars false #[Value.slice none 0 0].toList 8=some ([.nil],[],places) :=
  ⟨[],by kernel_rfl⟩
set_option maxRecDepth 100000 in
theorem lifted (os:Os) (started:os.Started) (H:Type) (enc:TypeId × Value→H) (F:Stop.Interp) :
    ReturnsInHanded {} Tryz.checked os 6 .any ((OpenSpec.ofChange Rows.fnWorldIdleSpec).preRow enc Tryz.prog Tryz.f6 Rows.fnWorldIdleRow.domain false Rows.fnWorldIdleRow.laid) (((OpenSpec.ofChange Rows.fnWorldIdleSpec).at F).post enc Tryz.prog Tryz.f6 false true false false):=by
  obtain ⟨places,hx⟩:=reads os enc
  refine returnsInHanded_of_row (C:=Tryz.checked) (s:=OpenSpec.ofChange Rows.fnWorldIdleSpec) own started (by kernel_rfl) Tryz.func6
    (witness_row_atRef (enc:=enc) (C:=Tryz.checked) false (World.doorLaid Tryz.prog 400 os) #[.slice none 0 0] rfl (by kernel_rfl) (by kernel_rfl) (by kernel_rfl)
      (OpenSpec.preRow_of_cond 8 hx (by kernel_rfl) (fun k hk=>by cases hk) (by kernel_rfl) (door_met os _))) ?_
  intro W base args ds gs before hval hW _ _ _ hL hs _
  exact contract H enc W base args ds gs before hval hW hL hs
theorem said:Rows.FnWorldIdleSaid :=
  OpenClaim.holds_of_cond 6 Tryz.f6 rfl rfl rfl rfl rfl rfl rfl ⟨rfl,rfl,rfl,rfl,rfl⟩ rfl rfl rfl rfl rfl (by kernel_rfl) Tryz.func6 closed
    (of_decide_eq_true (by kernel_rfl)) (by unfold Func.isWrapper;first|(rw [if_pos (by decide +kernel)];kernel_rfl)|(rw [if_neg (by decide +kernel)];exact ⟨rfl,rfl⟩))
    (fun os started H enc _ F=>by rw [OpenClaim.pre_eq_preRow];exact lifted os started H enc F)
theorem plain (f:FuncId) (fn:Func) (hf:Tryz.pinned.checked.prog.funcNamed "loop.example/ostiary/laws.FnWorldIdle"=some f) (hfn:Tryz.pinned.checked.prog.funcs[f]?=some fn) :
    true=Tryz.pinned.checked.prog.looks []∧∀ (j:Nat) t,fn.params[j]?=some t→Tryz.pinned.checked.prog.wantsStandIn t=false:=by
  obtain rfl:f=6:=Option.some.inj ((show Tryz.prog.funcNamed "loop.example/ostiary/laws.FnWorldIdle"=some 6 by kernel_rfl).symm.trans hf) |>.symm
  obtain rfl:fn=Tryz.f6:=(Option.some.inj (Tryz.func6.symm.trans hfn)).symm
  refine ⟨by kernel_rfl,fun j t ht=>?_⟩
  rw [Tryz.params6] at ht
  obtain rfl:t=22:=by simpa using Array.mem_of_getElem? ht
  exact (show Tryz.prog.wantsStandIn 22=false by kernel_rfl)
theorem card:Rows.FnWorldIdleCardSaid :=
  Claim7.holds_tied_plain_at .later [] _ _ _ _ said (fun _ h=>by cases h) (by kernel_rfl) (fun _ h=>by cases h) fnWorldIdle_row_tie rfl ⟨rfl,rfl⟩ (by kernel_rfl) rfl plain (by kernel_rfl)
end Go.Proofs.YtggifndkolojmaaGreatDoor.fnWorldIdle
