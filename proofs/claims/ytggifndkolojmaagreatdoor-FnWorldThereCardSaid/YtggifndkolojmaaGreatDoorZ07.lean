/- Part 7 of the proof: the walk over values, the plain model, contracts of the functions of the program. -/
import Derived.Test.YtggifndkolojmaaGreatDoorZ04
import Derived.Test.YtggifndkolojmaaGreatDoorZ05
import Derived.Test.YtggifndkolojmaaGreatDoorZ06
import Derived.Test.YtggifndkolojmaaGreatDoorZ03
import Derived.Shelf.Strings.OnBuilder
set_option linter.all false
namespace Go.Proofs.YtggifndkolojmaaGreatDoor.W
open Go Go.RowKit Go.Proofs Go.Proofs.YtggifndkolojmaaGreatDoor.VL Go.Proofs.YtggifndkolojmaaGreatDoor.M
attribute [local congr] optK_congr guardK_congr condK_congr runT_congr runD_congr wpI_congr CallV_congr LoopI_congr pureK_congr effK_congr calK_congr stepV_congr doV_congr exN_congr exB_congr retF_congr retQ_congr gK_congr condW_congr ldK_congr stoK_congr
attribute [local go_sem] argL_cons argL_nil argH_nil argH_cons chH_getH wpI_seq wpI_reg wpI_drw wpI_ret cond_k condW_t condW_f wpI_skip wpI_block wpI_exit wpI_loop exN_n exN_r exN_e exB_n exB_r exB_h exB_m runT_k kT_e runT_nil runD_k kD_e runD_nil step_u step_k gK_t gK_f do_mv do_bino bo_add bo_sub bo_mul bo_subu bo_quo bo_rem bo_xor bo_eql bo_neq bo_lss bo_leq bo_gtr bo_geq bo_cat bo_eqs bo_nes do_pick do_call do_cal calK_f do_box do_alloc do_ldk ldK_s do_stok stoK_s do_fad do_nilc do_not do_neg do_len do_lens do_ext do_eqs do_beq do_isn do_cvi do_sls do_idx do_mn do_mx do_build do_mkf do_s2b do_b2s do_slv do_iad do_bsl do_mks do_app ev_t ev_c app_some app_none
attribute [local go_sem] List.nil_append List.cons_append List.append_nil getL_hit getL_miss getH_nil getH_hit getH_miss nm_eq ne_eq Nat.reduceEqDiff not_false_eq_true Nat.reduceAdd Nat.add_zero Nat.zero_add if_true if_false ite_true ite_false pureK_s effK_s optK_s gdV_t gdV_f gdV_s pick_b ge_iff_le gt_iff_lt cond_true cond_false fresh_k cells_agg cells_int cells_bool cells_str cells_own cells_sl cells_nils ld_pv ld_pa ld_ip ldVar_t ldVar_f ldArr_t ldArr_f ldRow_t ldRow_f ldA_s ld1_s fad_pv fad_pa fad_ip nilc_pv nilc_pa nilc_ip not_b neg_i cvi_i ext_t retF_n retF_r
attribute [local go_sem] resV_k rvs_nil rvs_t rvs_c fstO_s consO_s resK_s resL_1 resL_2 resL_3 resL_4  Option.some.injEq List.map_cons List.map_nil List.all_cons List.all_nil Bool.and_true Bool.and_self Bool.not_true Bool.not_false Option.map_some Option.map_none sls_s slsG_s loV_n loV_i hiV_n hiV_i idx_s mn_i mx_i s2b_s b2s_s bytO_s bytes_nil bytes_cons conB_s slv_sl slv_own slv_nils slvG_s slvN_s slvO_s iad_sl iadG_map take_map drop_map List.length_map iad_own iad_view iadO_a iadW_a mks_i rowO_nils rowO_sl rowO_own rowA_a eq_self appG_nils appG_own appO_a guardP_T mapA_s bld_nil mkf_nil bldF_e fill_nil fill_cons mkf_e lens_s len_nils len_sl len_own len_view isn_nile isn_erre List.getElem?_cons_zero List.getElem?_cons_succ List.length_cons List.length_nil decide_true decide_false Int.toNat_natCast Int.cast_ofNat_Int Int.reduceLT Int.reduceLE Int.reduceEq Int.reduceAdd Int.reduceSub Int.reduceMul Int.reduceNeg Int.reduceToNat List.getD_cons_zero List.getD_cons_succ not_true_eq_false not_false_eq_true Bool.false_eq_true Bool.true_eq_false reduceCtorEq
attribute [local go_sem] E.row Pc.row Pair.row Part.row Strm.row Flw.row Pk.row Door.row Conv.row World.row Ev.row rdV E.eta Pc.eta Pair.eta Part.eta Strm.eta Pk.eta Flw.eta Conv.eta Door.eta World.eta Ev.eta
attribute [local go_sem] sub_ok st_pv st_pa stVar_v stArr_a Nat.le_refl List.drop_zero List.drop_succ_cons List.take_succ_cons List.take_zero setR Nat.reduceLeDiff
attribute [local go_sem] wk_bot wk2_bot wk1_bot wk_undef wk_tup_e wk2_agg_e wk_agg_e wk1_fn_e wk2_fn_e wk_fn_e wkl_nil wkl_cons wkh_var_e wkh_arr_e wkh_fresh_e wkh_dead_v wkh_dead_a wkh_dead_d wk0_undef wk0_int wk0_bool wk0_str wk0_nils wk0_nils_sl wk0_nilp wk0_nile wk0_erre wk0_sl wk0_iptr wk0_own wk0_view wk0_pv wk0_pa fzA_a fzW_a fzP_v wk0_own_sl wk0_view_sl wk0_pv_iptr WkS_nil WkS_cons WkN_nil WkN_cons nonB_nil nonB_cons getN_nil getN_hit getN_miss pinOk_0 pinOk_s and_true true_and and_self
attribute [local go_sem] bot_int one_int unt_int clo_int bot_bool one_bool unt_bool clo_bool bot_str one_str unt_str clo_str bot_nils one_nils unt_nils clo_nils bot_nilp one_nilp unt_nilp clo_nilp bot_nile one_nile unt_nile clo_nile bot_erre one_erre unt_erre clo_erre bot_raw one_raw unt_raw clo_raw bot_sl one_sl unt_sl clo_sl bot_own one_own unt_own clo_own bot_view one_view unt_view clo_view bot_pv one_pv unt_pv clo_pv bot_pa one_pa unt_pa clo_pa bot_iptr one_iptr unt_iptr clo_iptr unt_agg unt_fn one_fn
attribute [local go_sem] rn_tup rn_agg rn2_agg rn_fn rn2_fn rnfn1 rn_bot rn2_bot rn1_bot rn0_int rn0_bool rn0_str rn0_nils rn0_nilp rn0_nile rn0_erre rn0_sl rn0_iptr rn0_own rn0_view rn0_pv rn0_pa hrn_var hrn_arr hrn_dead outU_nil outU_cons deads_nil deads_cons bk_ge bk_lt nsF_0 nsF_s chH_0 chH_s chH_n newN_e andB_s eqR_nil eqR_i eqR_b eqR_s mapX_f mapX_t eqs_a beq_f beq_t live_arr live_var nsl_nil nsl_cons Nat.reduceMul Nat.reduceLT Nat.zero_le Nat.not_lt_zero
attribute [local go_sem] mV lD lA fD bN eX oP nP sR i0 s0
theorem wi_wb {w:M.World} (h:WI w):WB w:=by
  obtain ⟨hdm,hdf,_⟩:=doorOk_iff.1 h.door
  have:=(mapOk_ports hdm).2
  have:=h.cl
  have:=h.nl
  exact ⟨by omega,by omega,by omega,by omega,copyC h.door⟩
theorem zeroWB:WB .zero:=⟨by simp [World.zero],by simp [World.zero],by simp [World.zero,Door.zero],by simp [World.zero,Door.zero],by simp [World.zero,Door.zero]⟩
theorem play_wi {cs:List Conv} {es:List Ev} {w:M.World} (h:worldPlay cs es=some w):WI w:=by
  obtain ⟨w0,h0,_,rfl⟩:=worldPlay_is h
  exact play_ok (worldNew_ok h0) es
theorem bff:(false == false)=true:=rfl
theorem btt:(true == true)=true:=rfl
theorem zero_e:World.zero=⟨[],⟨[],[]⟩,[]⟩:=rfl

def copyA (w:M.World) (r:V) (o:List Hs):Prop:=r=.agg [.own 0 w.convs.length,.sl 3 (w.door.map.map Pair.row),.own 1 w.door.flows.length,.own 2 w.nets.length] ∧
  o=[.arr 41 10 (w.convs.map Conv.row),.arr 46 8 (w.door.flows.map Flw.row),.arr 54 7 (w.nets.map Pk.row)]
theorem o35 {X:List (E × E)} (w:M.World) (hw:WX X w):FnP Tryz.prog G 35 0 [] [.agg [.sl 10 (w.convs.map Conv.row),.sl 3 (w.door.map.map Pair.row),.sl 8 (w.door.flows.map Flw.row),.sl 7 (w.nets.map Pk.row)]] (copyA w):=by
  refine mP dg35 Tryz.ntmps35 ⟨_,_,rfl,rfl⟩ ?_
  have hnl:=hw.nl
  have hcl:=hw.cl
  obtain ⟨hdm,hdf,_⟩:=doorOk_iff.1 hw.door
  have hml:=(mapOk_ports hdm).2
  simp only [ic35,go_sem]
  with_reducible repeat' (first|refine br ?_ ?_<;>intro h e<;>(try simp only [e,go_sem])<;>clear e|rw [i64w (by omega)]|refine sd ?_<;>try simp only [go_sem]|fail)
  refine callO (c75 (w.convs.map Conv.row) (by simp;omega)) [] 5 1 (by simp only [go_sem];first|done|simp) (by simp) (by rintro _ _ ⟨rfl,rfl⟩;simp) (by intro i hi;obtain rfl:i=0:=(by omega);simp only [go_sem]) ?_
  rintro _ _ ⟨rfl,rfl⟩
  simp only [go_sem]
  with_reducible repeat' (first|refine br ?_ ?_<;>intro h e<;>(try simp only [e,go_sem])<;>clear e|rw [i64w (by omega)]|refine sd ?_<;>try simp only [go_sem]|fail)
  refine callU (o74 (w.convs.map Conv.row) w.convs.length (by simp)) [100500] [] 6 1 (by simp only [go_sem];first|done|simp) (by simp only [go_sem];first|done|simp) (by simp) (by simp) (by rintro _ _ ⟨rfl,rfl⟩;simp) (by intro i hi;obtain rfl:i=0:=(by omega);simp only [go_sem]) ?_
  rintro _ _ ⟨rfl,rfl⟩
  simp only [go_sem]
  with_reducible repeat' (first|refine br ?_ ?_<;>intro h e<;>(try simp only [e,go_sem])<;>clear e|rw [i64w (by omega)]|refine sd ?_<;>try simp only [go_sem]|fail)
  refine callO (k76 (w.door.map.map Pair.row) w.door.flows (by simp;omega) (by omega) (copyC hw.door)) [] 9 1 (by simp only [go_sem];first|done|simp) (by simp) (by rintro _ _ ⟨rfl,rfl⟩;simp) (by intro i hi;obtain rfl:i=0:=(by omega);simp only [go_sem]) ?_
  rintro _ _ ⟨rfl,rfl⟩
  simp only [go_sem]
  with_reducible repeat' (first|refine br ?_ ?_<;>intro h e<;>(try simp only [e,go_sem])<;>clear e|rw [i64w (by omega)]|refine sd ?_<;>try simp only [go_sem]|fail)
  refine callO (c78 (w.nets.map Pk.row) (by simp;omega)) [] 12 1 (by simp only [go_sem];first|done|simp) (by simp) (by rintro _ _ ⟨rfl,rfl⟩;simp) (by intro i hi;obtain rfl:i=0:=(by omega);simp only [go_sem]) ?_
  rintro _ _ ⟨rfl,rfl⟩
  simp only [go_sem]
  with_reducible repeat' (first|refine br ?_ ?_<;>intro h e<;>(try simp only [e,go_sem])<;>clear e|rw [i64w (by omega)]|refine sd ?_<;>try simp only [go_sem]|fail)
  refine callU (o77 (w.nets.map Pk.row) w.nets.length (by simp)) [101200] [] 13 1 (by simp only [go_sem];first|done|simp) (by simp only [go_sem];first|done|simp) (by simp) (by simp) (by rintro _ _ ⟨rfl,rfl⟩;simp) (by intro i hi;obtain rfl:i=0:=(by omega);simp only [go_sem]) ?_
  rintro _ _ ⟨rfl,rfl⟩
  simp only [go_sem]
  with_reducible repeat' (first|refine br ?_ ?_<;>intro h e<;>(try simp only [e,go_sem])<;>clear e|rw [i64w (by omega)]|refine sd ?_<;>try simp only [go_sem]|fail)
  exact retN (.agg [.own 0 w.convs.length,.sl 3 (w.door.map.map Pair.row),.own 1 w.door.flows.length,.own 2 w.nets.length]) [.arr 41 10 (w.convs.map Conv.row),.arr 46 8 (w.door.flows.map Flw.row),.arr 54 7 (w.nets.map Pk.row)] [(0,100600),(1,100900),(2,101300)] (by simp only [go_sem]) ⟨rfl,rfl⟩ (by simp only [go_sem]) (by simp [argH,getN]) (by simp only [go_sem])
def badP (p:Pk):Bool:=!pkOk p
def ic57:IC:=sR [oP 1 (.box 54 (.t 0)),oP 2 (.mv (.c (.bool false)))] (sR [lA 3 7 1,oP 4 (.call 58 [.t 3]),oP 5 (.un .not (.t 4)),mV 2 5] .ret)
theorem dg57:Dg Tryz.prog 57 Tryz.f57 ic57 [(.t 2)]:=⟨Tryz.func57,by kernel_rfl,by kernel_rfl⟩
theorem c57 (p:Pk) (h:p.text.length≤2000000):FnR Tryz.prog G 57 [.agg [.int .i64 p.kind,.int .i64 p.frm.a,.int .i64 p.frm.p,.int .i64 p.to.a,.int .i64 p.to.p,.int .i64 p.at_,.str p.text]] (.bool (badP p)):=by
  refine mF dg57 Tryz.ntmps57 ?_
  have f:=c58 p h
  unfold badP
  simp only [ic57,go_sem]
  with_reducible repeat' (first|refine br ?_ ?_<;>intro h e<;>(try simp only [e,go_sem])<;>clear e|rw [i64w (by omega)]|refine sd ?_<;>try simp only [go_sem]|(first|refine cr (f ..) ?_)<;>try simp only [go_sem]|fail)
def ic113:IC:=sR [oP 4 (.mv (.c i0))] (.seq (sR [mV 6 0,oP 7 (.len (.t 6)),oP 8 (.mv (.c i0))] (.block 0 (.loop (sR [bN 9 .lss 8 7] (.seq (.cond (.t 9) .skip (.exit 0)) (.seq (.block 1 (sR [mV 10 8,mV 5 10] (sR [mV 11 1,mV 12 0,mV 13 5,oP 14 (.iad 7 (.t 12) (.t 13)),lA 15 7 14,oP 16 (.cal (.t 11) [.t 15])] (.cond (.t 16) (sR [mV 17 5,mV 4 17] .ret) .skip)))) (.reg [oP 18 (.bin .add (.t 8) (.c (.int .i64 1))),mV 8 18]))))))) (sR [oP 4 (.mv (.c (.int .i64 (-1))))] .ret))
theorem dg113:Dg Tryz.prog 113 Tryz.f113 ic113 [(.t 4)]:=⟨Tryz.func113,by kernel_rfl,by kernel_rfl⟩
theorem c113 (l:List Pk) (hl:l.length≤2000000) (ht:∀ p∈l,p.text.length≤2000000):FnR Tryz.prog G 113 [.sl 7 (l.map Pk.row),.fn 57 []] (.int .i64 (ixI (l.findIdx? badP))):=by
  refine mF dg113 Tryz.ntmps113 ?_
  simp only [ic113,go_sem]
  refine loopN (fun k:Nat=>⟨getL [(0,.sl 7 (l.map Pk.row)),(1,.fn 57 []),(7,.int .i64 l.length),(8,.int .i64 (k:Int))],getH []⟩) (fun k=>l.length - k)
    (fun k=>k≤l.length∧(l.take k).any badP=false) 0 (leQ []) ⟨Nat.zero_le _,by simp⟩ ?_
  intro k ⟨hk,ha⟩
  simp only [go_sem]
  by_cases h:(k:Int)<l.length
  · have hil:k<l.length:=by omega
    have hg:l.getD k default=l[k]:=by simp [List.getD,hil]
    have hy:=findIdx_yes hil ha
    have hs:=any_step hil ha
    have f:=c57 l[k] (ht _ (List.getElem_mem hil))
    simp only [eq_true h,go_sem]
    refine effG (by omega) ?_
    simp only [hg,go_sem]
    refine callR f rfl rfl ?_
    simp only [go_sem]
    with_reducible repeat' (first|refine br ?_ ?_<;>intro h e<;>(try simp only [e,go_sem])<;>clear e|rw [i64w (by omega)]|refine sd ?_<;>try simp only [go_sem]|fail)
    · rw [hy (by assumption)];rfl
    · exact ⟨k+1,by omega,⟨by omega,hs (by assumption)⟩,(leQ [])⟩
  · simp only [eq_false h,go_sem]
    have:k=l.length:=by omega
    subst this
    rw [List.take_length] at ha
    rw [findIdx_no ha];rfl
def ic56:IC:=sR [oP 4 (.mv (.c (.bool false)))] (sR [mV 5 0,mV 6 1,oP 7 (.call 113 [.t 5,.t 6]),oP 8 (.bin .geq (.t 7) (.c i0)),mV 4 8] .ret)
theorem dg56:Dg Tryz.prog 56 Tryz.f56 ic56 [(.t 4)]:=⟨Tryz.func56,by kernel_rfl,by kernel_rfl⟩
theorem c56 (l:List Pk) (hl:l.length≤2000000) (ht:∀ p∈l,p.text.length≤2000000):FnR Tryz.prog G 56 [.sl 7 (l.map Pk.row),.fn 57 []] (.bool (l.any badP)):=by
  refine mF dg56 Tryz.ntmps56 ?_
  simp only [ic56,go_sem]
  refine callR (c113 l hl ht) rfl rfl ?_
  simp only [go_sem,ixI_any]
theorem any_bad (l:List Pk):(!l.any badP)=l.all pkOk:=by
  induction l with
  | nil=>rfl
  | cons p l ih=>simp [badP,← ih]
structure WS (w:M.World):Prop where
  cl:w.convs.length≤2000000
  cb:∀ c∈w.convs,(c.up.length≤2000000∧c.down.length≤2000000)∧c.upGot.length≤2000000∧c.downGot.length≤2000000
  db:DB w.door
  nl:w.nets.length≤2000000
  nt:∀ p∈w.nets,p.text.length≤2000000
def ic23:IC:=sR [oP 1 (.box 33 (.t 0)),oP 2 (.mv (.c (.bool false)))] (sR [fD 3 0 1,lD 4 1 3,oP 5 (.call 54 [.t 4]),mV 6 5,⟨some 7,some (6,true),.fad 1 (.t 1)⟩,⟨some 8,some (6,true),.ld 2 true (.t 7)⟩,⟨some 9,some (6,true),.call 55 [.t 8]⟩,oP 10 (.pick (.t 6) (.t 9) (.c (.bool false))),mV 11 10,⟨some 12,some (11,true),.fad 3 (.t 1)⟩,⟨some 13,some (11,true),.ld 1 false (.t 12)⟩,⟨some 14,some (11,true),.len (.t 13)⟩,⟨some 15,some (11,true),.bin .leq (.t 14) (.c (.int .i64 10))⟩,oP 16 (.pick (.t 11) (.t 15) (.c (.bool false))),mV 17 16,⟨some 18,some (17,true),.fad 3 (.t 1)⟩,⟨some 19,some (17,true),.ld 1 false (.t 18)⟩,⟨some 20,some (17,true),.call 56 [.t 19,.c (.fn 57 [])]⟩,⟨some 21,some (17,true),.un .not (.t 20)⟩,oP 22 (.pick (.t 17) (.t 21) (.c (.bool false))),mV 2 22] .ret)
theorem dg23:Dg Tryz.prog 23 Tryz.f23 ic23 [(.t 2)]:=⟨Tryz.func23,by kernel_rfl,by kernel_rfl⟩
theorem c23 (w:M.World) (h:WS w):FnR Tryz.prog G 23 [.agg [.sl 10 (w.convs.map Conv.row),.sl 3 (w.door.map.map Pair.row),.sl 8 (w.door.flows.map Flw.row),.sl 7 (w.nets.map Pk.row)]] (.bool (worldOk w)):=by
  refine mF dg23 Tryz.ntmps23 ?_
  have f1:=c54 w.convs h.cl h.cb
  have f2:=c55 w.door h.db
  have f3:=c56 w.nets h.nl h.nt
  have e:worldOk w=(together w.convs && doorOk w.door && decide (w.nets.length≤10) && !w.nets.any badP):=by rw [any_bad];rfl
  rw [e]
  generalize together w.convs=b1 at *
  generalize doorOk w.door=b2 at *
  generalize w.nets.any badP=b3 at *
  simp only [ic23,go_sem]
  with_reducible repeat' (first|refine br ?_ ?_<;>intro h e<;>(try simp only [e,go_sem])<;>clear e|rw [i64w (by omega)]|refine sd ?_<;>try simp only [go_sem]|(first|refine cr (f1 ..) ?_|refine cr (f2 ..) ?_|refine cr (f3 ..) ?_)<;>try simp only [go_sem]|fail)
  all_goals first|done|(clear f1 f2 f3 e;simp_all;done)|(clear f1 f2 f3 e;simp_all;omega)|trace_state
theorem wx_ws {X:List (E × E)} {w:M.World} (h:WX X w):WS w:=by
  obtain ⟨hdm,hdf,_⟩:=doorOk_iff.1 h.door
  have hm:=(mapOk_ports hdm).2
  have hcl:=h.cl
  have hnl:=h.nl
  refine ⟨by omega,fun c hc=>?_,⟨by omega,by omega,fun f hf=>?_⟩,by omega,fun p hp=>?_⟩
  · have:=convOk_B (h.cv c hc)
    have h1:=this.up;have h2:=this.down;have h3:=this.upGot;have h4:=this.downGot
    omega
  · obtain ⟨k,hk⟩:=List.mem_iff_getElem?.1 hf
    obtain ⟨_,_,h1,h2,_⟩:=flow_at h.door hk
    exact ⟨(strmOk_B h1).sb,(strmOk_B h2).sb⟩
  · have:=(h.net p hp).pk.len
    omega
theorem wi_ws {w:M.World} (h:WI w):WS w:=wx_ws h.x
def ic18:IC:=sR [oP 4 (.mv (.c (.bool false)))] (sR [mV 5 0,oP 6 (.lens (.t 5)),mV 7 1,oP 8 (.lens (.t 7)),bN 9 .leq 6 8,mV 10 9,⟨some 11,some (10,true),.mv (.t 1)⟩,⟨some 12,some (10,true),.mv (.t 0)⟩,⟨some 13,some (10,true),.lens (.t 12)⟩,⟨some 14,some (10,true),.sls (.t 11) none (some (.t 13))⟩,⟨some 15,some (10,true),.mv (.t 0)⟩,⟨some 16,some (10,true),.bin .eql (.t 14) (.t 15)⟩,oP 17 (.pick (.t 10) (.t 16) (.c (.bool false))),mV 4 17] .ret)
theorem dg18:Dg Tryz.prog 18 Tryz.f18 ic18 [(.t 4)]:=⟨Tryz.func18,by kernel_rfl,by kernel_rfl⟩
theorem c18 (a b:B) (h:a <+: b) (hb:b.length≤2000000):FnR Tryz.prog G 18 [.str a,.str b] (.bool true):=by
  refine mF dg18 Tryz.ntmps18 ?_
  have hl:=h.length_le
  have ht:b.take a.length=a:=(List.prefix_iff_eq_take.1 h).symm
  simp only [ic18,go_sem]
  with_reducible repeat' (first|refine br ?_ ?_<;>intro h e<;>(try simp only [e,go_sem,ht,Int.toNat_natCast,List.drop_zero])<;>clear e|rw [i64w (by omega)]|refine sd ?_<;>try simp only [go_sem,ht,Int.toNat_natCast,List.drop_zero]|fail)
  all_goals omega
def ic16:IC:=sR [oP 1 (.box 44 (.t 0)),oP 2 (.mv (.c s0))] (.seq (sR [lA 3 2 1,oP 4 (.call 41 [.t 3]),oP 5 (.un .not (.t 4))] (.cond (.t 5) (sR [oP 2 (.mv (.c s0))] .ret) .skip)) (sR [lA 6 2 1,oP 7 (.call 42 [.t 6]),mV 2 7] .ret))
theorem dg16:Dg Tryz.prog 16 Tryz.f16 ic16 [(.t 2)]:=⟨Tryz.func16,by kernel_rfl,by kernel_rfl⟩
theorem c16 (s:Strm) (h:strmOk s=true):FnR Tryz.prog G 16 [.agg [.str s.inn,.sl 2 (s.parts.map Part.row)]] (.str (sOut s)):=by
  refine mF dg16 Tryz.ntmps16 ?_
  have f1:=c41 s (strmOk_B h).sb
  have f2:=c42 s (strmOk_B h)
  rw [h] at f1
  simp only [ic16,go_sem]
  with_reducible repeat' (first|refine br ?_ ?_<;>intro h e<;>(try simp only [e,go_sem])<;>clear e|rw [i64w (by omega)]|refine sd ?_<;>try simp only [go_sem]|(first|refine cr (f1 ..) ?_|refine cr (f2 ..) ?_)<;>try simp only [go_sem]|fail)
def ic15:IC:=sR [oP 2 (.box 33 (.t 0)),oP 4 (.alloc 46 [i0,i0,i0,i0,s0,.nils,s0,.nils]),oP 5 (.mv (.c (.bool false)))] (.seq (sR [lA 7 4 2,oP 8 (.call 23 [.t 7]),oP 9 (.un .not (.t 8)),mV 10 9,⟨some 11,some (10,false),.mv (.t 1)⟩,⟨some 12,some (10,false),.fad 0 (.t 2)⟩,⟨some 13,some (10,false),.ld 1 false (.t 12)⟩,⟨some 14,some (10,false),.len (.t 13)⟩,⟨some 15,some (10,false),.bin .sub (.t 14) (.c (.int .i64 1))⟩,⟨some 16,some (10,false),.call 38 [.t 11,.c i0,.t 15]⟩,⟨some 17,some (10,false),.un .not (.t 16)⟩,oP 18 (.pick (.t 10) (.c (.bool true)) (.t 17))] (.cond (.t 18) (sR [oP 19 (.build [i0,i0,i0,i0,s0,.nils,s0,.nils] []),nP (.sto 8 (.t 4) (.t 19)),oP 5 (.mv (.c (.bool false)))] .ret) .skip)) (.seq (.drw [0,1,0,4,0,28,60,124,0,256,0,1792,3840,7936,16383,32767] [(0,fD 20 1 2),(1,lA 21 2 20),(2,fD 22 0 2),(3,lD 23 1 22),(4,mV 24 1),(5,oP 25 (.iad 10 (.t 23) (.t 24))),(6,fD 26 0 25),(7,lA 27 2 26),(8,fD 28 0 2),(9,lD 29 1 28),(10,mV 30 1),(11,oP 31 (.iad 10 (.t 29) (.t 30))),(12,fD 32 2 31),(13,lA 33 2 32),(14,oP 34 (.call 39 [.t 21,.t 27,.t 33])),(15,mV 6 34)]) (.seq (sR [mV 35 6,oP 36 (.bin .lss (.t 35) (.c i0))] (.cond (.t 36) (sR [oP 37 (.build [i0,i0,i0,i0,s0,.nils,s0,.nils] []),nP (.sto 8 (.t 4) (.t 37)),oP 5 (.mv (.c (.bool false)))] .ret) .skip)) (sR [fD 38 1 2,fD 39 1 38,lD 40 1 39,mV 41 6,oP 42 (.iad 8 (.t 40) (.t 41)),lA 43 8 42,oP 44 (.call 40 [.t 43]),nP (.sto 8 (.t 4) (.t 44)),oP 5 (.mv (.c (.bool true)))] .ret))))
theorem dg15:Dg Tryz.prog 15 Tryz.f15 ic15 [(.cell 4 8 true),(.t 5)]:=⟨Tryz.func15,by kernel_rfl,by kernel_rfl⟩
theorem c15 (w:M.World) (hw:WI w) (hok:worldOk w=true) (i:Nat) (hi:i<w.convs.length):FnR Tryz.prog G 15 [.agg [.sl 10 (w.convs.map Conv.row),.sl 3 (w.door.map.map Pair.row),.sl 8 (w.door.flows.map Flw.row),.sl 7 (w.nets.map Pk.row)],.int .i64 (i:Int)] (.tup [.agg (Flw.row ((worldFlow w i).getD .zero)),.bool (worldFlow w i).isSome]):=by
  refine mF dg15 Tryz.ntmps15 ?_
  have f1:=c23 w (wi_ws hw)
  rw [hok] at f1
  have hcl:=hw.cl
  have hg:w.convs.getD i default=w.convs[i]:=by simp [List.getD,hi]
  have hfl:=hw.flows2
  have f2:=c39 (w.door.map.map Pair.row) w.door.flows w.convs[i].ins w.convs[i].out (by omega)
  have hwi:within (i:Int) 0 ((w.convs.length:Int) - 1)=true:=M.within_iff.2 (by omega)
  rw [worldFlow_is hok (List.getElem?_eq_getElem hi)]
  generalize w.convs[i]=c at *
  simp only [ic15,go_sem]
  cases hix:flowIx w.door.flows c.ins c.out with
  | none =>
    rw [hix,show ixI none = -1 from rfl] at f2
    with_reducible repeat' (first|rw [i64w (by omega)];try simp only [go_sem,hwi,getD_mp hi,hg]|refine br ?_ ?_<;>intro h e<;>(try simp only [e,go_sem,hwi,getD_mp hi,hg])<;>clear e|refine sd ?_<;>try simp only [go_sem,hwi,getD_mp hi,hg]|(first|refine cr (f1 ..) ?_|refine cr (c38 ..) ?_|refine cr (f2 ..) ?_)<;>try simp only [go_sem,hwi,getD_mp hi,hg]|fail)
    all_goals first|done|simp [Flw.zero,Flw.row,Strm.zero,E.zero]|trace_state
  | some k =>
    obtain ⟨f,e1,_,_,_⟩:=flowIx_some hix
    have hk:=(List.getElem?_eq_some_iff.1 e1).1
    have hgk:w.door.flows.getD k default=f:=by simp [List.getD,e1]
    have hB:=(flow_at hw.door e1).2.2
    have f3:=c40 f ⟨by have:=(strmOk_B hB.1).sb.2.1;omega,by have:=(strmOk_B hB.2.1).sb.2.1;omega⟩
    rw [hix] at f2
    have h1:ixI (some k)=(k:Int):=rfl
    rw [h1] at f2
    have h2:¬ (k:Int)<0:=by omega
    with_reducible repeat' (first|rw [i64w (by omega)];try simp only [go_sem,hwi,getD_mp hi,hg,getD_mp hk,hgk,eq_false h2]|refine br ?_ ?_<;>intro h e<;>(try simp only [e,go_sem,hwi,getD_mp hi,hg,getD_mp hk,hgk,eq_false h2])<;>clear e|refine sd ?_<;>try simp only [go_sem,hwi,getD_mp hi,hg,getD_mp hk,hgk,eq_false h2]|(first|refine cr (f1 ..) ?_|refine cr (c38 ..) ?_|refine cr (f2 ..) ?_|refine cr (f3 ..) ?_)<;>try simp only [go_sem,hwi,getD_mp hi,hg,getD_mp hk,hgk,eq_false h2]|fail)
    all_goals simp [e1]
def ic20:IC:=sR [oP 2 (.box 33 (.t 0)),oP 3 (.box 56 (.t 1)),oP 4 (.alloc 33 [.nils,.nils,.nils,.nils])] (.seq (sR [lA 6 4 2,oP 7 (.call 23 [.t 6]),oP 8 (.un .not (.t 7))] (.cond (.t 8) (sR [oP 9 (.build [.nils,.nils,.nils,.nils] []),nP (.sto 4 (.t 4) (.t 9))] .ret) .skip)) (sR [lA 10 4 2,oP 11 (.call 35 [.t 10]),oP 5 (.alloc 33 [.nils,.nils,.nils,.nils]),nP (.sto 4 (.t 5) (.t 11))] (sR [lA 12 11 3,oP 13 (.call 34 [.t 5,.t 12])] (sR [lA 14 4 5,oP 15 (.call 35 [.t 14]),nP (.sto 4 (.t 4) (.t 15))] .ret))))
theorem dg20:Dg Tryz.prog 20 Tryz.f20 ic20 [(.cell 4 4 true)]:=⟨Tryz.func20,by kernel_rfl,by kernel_rfl⟩
theorem x20 {X:List (E × E)} (w:M.World) (e:Ev) (hw:WX X w) (hok:worldOk w=true) (ht:e.pkt.text.length≤2000000):FnR Tryz.prog G 20 [.agg [.sl 10 (w.convs.map Conv.row),.sl 3 (w.door.map.map Pair.row),.sl 8 (w.door.flows.map Flw.row),.sl 7 (w.nets.map Pk.row)],.agg [.int .i64 e.kind,.int .i64 e.a,.int .i64 e.b,.int .i64 e.c,.int .i64 e.pkt.kind,.int .i64 e.pkt.frm.a,.int .i64 e.pkt.frm.p,.int .i64 e.pkt.to.a,.int .i64 e.pkt.to.p,.int .i64 e.pkt.at_,.str e.pkt.text]] (.agg [.sl 10 ((wDo w e).convs.map Conv.row),.sl 3 ((wDo w e).door.map.map Pair.row),.sl 8 ((wDo w e).door.flows.map Flw.row),.sl 7 ((wDo w e).nets.map Pk.row)]):=by
  refine mF dg20 Tryz.ntmps20 ?_
  have f1:=c23 w (wx_ws hw)
  rw [hok] at f1
  simp only [ic20,go_sem]
  with_reducible repeat' (first|refine br ?_ ?_<;>intro h e<;>(try simp only [e,go_sem])<;>clear e|rw [i64w (by omega)]|refine sd ?_<;>try simp only [go_sem]|(first|refine cr (f1 ..) ?_)<;>try simp only [go_sem]|fail)
  refine callO (o35 w hw) [] 11 3 (by simp only [go_sem];first|done|simp) (by simp) (by rintro _ _ ⟨rfl,rfl⟩;simp) (by intro i hi;rcases (show i=0∨i=1∨i=2 by omega) with rfl|rfl|rfl<;>simp only [go_sem]) ?_
  rintro _ _ ⟨rfl,rfl⟩
  simp only [go_sem]
  with_reducible repeat' (first|refine br ?_ ?_<;>intro h e<;>(try simp only [e,go_sem])<;>clear e|rw [i64w (by omega)]|refine sd ?_<;>try simp only [go_sem]|fail)
  refine callN (x34 w e hw ht) [1005,101101,101100,101102] [] true 13 4 (by simp only [go_sem];first|done|simp) (by simp only [go_sem];first|done|simp) (by simp) (by simp) (by simp) ?_ ?_ ?_
  · rintro _ _ ⟨rfl,v',hv',rfl⟩
    exact ⟨by simp,by simp,.inl rfl,fun i hi=>by obtain rfl:i=0:=(by omega);simp [chH,stepOk]⟩
  · intro i hi
    rcases (show i=0∨i=1∨i=2∨i=3 by omega) with rfl|rfl|rfl|rfl<;>simp only [go_sem]
  rintro _ _ ⟨rfl,v,hv,rfl⟩
  have hwv:WX X v:=by rw [hv];exact wDo_X hw e
  rw [← hv]
  simp only [go_sem]
  with_reducible repeat' (first|refine br ?_ ?_<;>intro h e<;>(try simp only [e,go_sem])<;>clear e|rw [i64w (by omega)]|refine sd ?_<;>try simp only [go_sem]|fail)
  refine callF (x35 v hwv) [101302,101301,101303] true (by simp only [go_sem];simp) (by simp only [List.mem_cons,List.not_mem_nil,or_false];rintro c (rfl|rfl|rfl)<;>simp only [go_sem]) rfl (.inl rfl) ?_
  simp only [go_sem]
  with_reducible repeat' (first|refine br ?_ ?_<;>intro h e<;>(try simp only [e,go_sem])<;>clear e|rw [i64w (by omega)]|refine sd ?_<;>try simp only [go_sem]|fail)
theorem c20 (w:M.World) (e:Ev) (hw:WI w) (hok:worldOk w=true) (ht:e.pkt.text.length≤2000000):FnR Tryz.prog G 20 [.agg [.sl 10 (w.convs.map Conv.row),.sl 3 (w.door.map.map Pair.row),.sl 8 (w.door.flows.map Flw.row),.sl 7 (w.nets.map Pk.row)],.agg [.int .i64 e.kind,.int .i64 e.a,.int .i64 e.b,.int .i64 e.c,.int .i64 e.pkt.kind,.int .i64 e.pkt.frm.a,.int .i64 e.pkt.frm.p,.int .i64 e.pkt.to.a,.int .i64 e.pkt.to.p,.int .i64 e.pkt.at_,.str e.pkt.text]] (.agg [.sl 10 ((wDo w e).convs.map Conv.row),.sl 3 ((wDo w e).door.map.map Pair.row),.sl 8 ((wDo w e).door.flows.map Flw.row),.sl 7 ((wDo w e).nets.map Pk.row)]) :=
  x20 w e hw.x hok ht



theorem us_two {w:World} {O:Nat→Prop} {ρ:Nat→VL.Loc} {h:Nat→Hs} {v1 v2:V} {us:List Value} (hargs:DenArgs w O ρ h [v1,v2] us):∃ u1 u2,us=[u1,u2]∧Den w O ρ h v1 u1∧Den w O ρ h v2 u2:=by
  obtain ⟨h1,h2⟩:=hargs
  match us,h1 with
  | [u1,u2],_=>exact ⟨u1,u2,rfl,h2 0 v1 u1 rfl rfl,h2 1 v2 u2 rfl rfl⟩
theorem mkStr_l (s:B):(mkStr s).data.toList=s:=by simp [mkStr]
theorem map_mk (ss:List B):(ss.map mkStr).map (·.data.toList)=ss:=by
  rw [List.map_map]
  induction ss with
  | nil=>rfl
  | cons s ss ih=>rw [List.map_cons,ih];simp [mkStr]
def strR (s:B):List V:=[.str s]
theorem joinR {P:Program} {f:FuncId} (hn:entr P f=true) (ss:List B) (sep:B) (hN:ss.length≤2000000)
    (h0:∀ A c (W:World),Calls P f #[.slice A 0 c,.string (mkStr sep)] W fun e w'=>e=.returned (.string (mkStr []))∧w'=W)
    (h1:∀ bk o c (xs:List ByteArray) (W:World),xs.length=ss.length→xs.map (·.data.toList)=ss→(∀ (j:Nat) x,xs[j]?=some x→W.cell? ⟨bk,o+j,none⟩=some (.string x))→bk<W.heap.size→xs.length≤c →
      Calls P f #[.slice (some ⟨bk,o,none⟩) xs.length c,.string (mkStr sep)] W fun e w'=>e=.returned (.string (mkStr (Lib.join ss sep)))∧Below W.heap.size W w') :
    FnR P G f [.sl 1 (ss.map strR),.str sep] (.str (Lib.join ss sep)) where
  en:=hn
  ne:=⟨_,_,rfl,rfl⟩
  run:=fun W ρ ext us hg hlt hno hng r hargs=>by
    obtain ⟨u,u2,rfl,hd,hd2⟩:=us_two hargs
    obtain rfl:u2=.string (mkStr sep):=inv_str hd2
    have hc:chH []=fun _=>.fresh:=by funext x;simp [chH]
    have fin:∀ W',Below W.heap.size W W'→∃ (u:Value) (res:V) (out:List Hs) (ρ':Nat→VL.Loc),Ending.returned (Value.string (mkStr (Lib.join ss sep)))=.returned u∧(res=.str (Lib.join ss sep)∧out=[])∧RelH ⟨W,blocks ρ (chH []),ext,0,ρ⟩ ρ' (chH out) W' ∧
        Den W' (owns ⟨W,blocks ρ (chH []),ext,0,ρ⟩ ρ' (chH out)) ρ' (chH out) res u:=fun W' hb =>
      ⟨_,_,[],fun _=>default,rfl,⟨rfl,rfl⟩,⟨hb.os,hb.tape,hb.output,hb.size,fun b hb1 _=>hb.block b hb1,fun c=>(by rw [hc];trivial),fun c hl=>(by rw [hc] at hl;cases hl),fun c c' hl=>(by rw [hc] at hl;cases hl),fun i hi=>absurd hi (Nat.not_lt_zero _)⟩,Imm.str _⟩
    have hd:Imm W (owns ⟨W,blocks ρ (chH []),ext,0,ρ⟩ ρ (chH [])) (.sl 1 (ss.map strR)) u:=hd
    generalize hr:ss.map strR=rows at hd
    have hlen:rows.length=ss.length:=by rw [← hr,List.length_map]
    cases hd with
    | esl _ A cap =>
      have e:ss=[]:=List.length_eq_zero_iff.1 hlen.symm
      subst e
      exact (h0 A cap W).mono fun e w' ⟨he,hw⟩=>by subst hw;subst he;exact fin _ (Below.refl _ _)
    | sl _ _ blk off cap cs k1 k2 k3 k4 k5 k6 k7 =>
      have hcell:∀ (j:Nat) x,(ss.map mkStr)[j]?=some x→W.cell? ⟨blk,off+j,none⟩=some (.string x):=fun j x hx=>by
        rw [List.getElem?_map] at hx
        cases hs:ss[j]? with
        | none=>rw [hs] at hx;cases hx
        | some s =>
          rw [hs] at hx
          cases hx
          have hrow:rows[j]?=some (strR s):=by rw [← hr,List.getElem?_map,hs];rfl
          have hcell:=k6 j _ 0 _ hrow rfl
          have hi:=k7 j _ 0 _ hrow rfl
          rw [show j * 1+0=j by omega] at hcell
          rw [hcell]
          have inv:∀ x,Imm W (owns ⟨W,blocks ρ (chH []),ext,0,ρ⟩ ρ (chH [])) (.str s) x→x=.string (mkStr s):=fun x h=>by cases h;rfl
          rw [inv _ hi]
      have:=h1 blk off cap (ss.map mkStr) W (by simp) (map_mk ss) hcell k2 (by simp;omega)
      rw [show (ss.map mkStr).length=rows.length by simp [hlen]] at this
      exact this.mono fun e w' ⟨he,hb⟩=>by subst he;exact fin _ hb
theorem e47:entr Tryz.prog 47=true:=by kernel_rfl
theorem c47 (ss:List B) (sep:B) (hN:ss.length≤2000000) (hl:(Lib.join ss sep).length≤2000000):FnR Tryz.prog G 47 [.sl 1 (ss.map fun x=>[.str x]),.str sep] (.str (Lib.join ss sep)):=by
  show FnR Tryz.prog G 47 [.sl 1 (ss.map strR),.str sep] (.str (Lib.join ss sep))
  refine joinR e47 ss sep hN (fun A c W=>Any.strings_Join_none Tryz.lays156 Tryz.Builder_Extra_156 A c (mkStr sep) W) fun bk o c xs W hx he hcells hbk hcap=>?_
  have hm:(mkStr sep).data.toList=sep:=mkStr_l sep
  refine (Any.strings_Join Tryz.lays156 Tryz.Builder_Extra_156 bk o c xs (mkStr sep) W hcells hbk (by omega) hcap (by rw [he,hm];omega)).mono fun e w' ⟨h1,h2⟩=>⟨?_,h2⟩
  rw [h1,he,hm]
  rfl
theorem join_flat (l:List B):Lib.join l []=l.flatten:=by
  cases l with
  | nil=>rfl
  | cons x r=>rw [Lib.join_cons];simp [Lib.joinTail]
theorem pieces_fits (t:B):fits (pieces t) t:=by
  rw [pieces_eq]
  have h:=pcs_fits _ (body t) (t.drop (t.length - held t)) (Nat.le_refl _)
  rwa [show body t++t.drop (t.length - held t)=t from List.take_append_drop _ _] at h
def ic17:IC:=sR [oP 4 (.mv (.c s0))] (.seq (sR [mV 7 0,oP 8 (.call 43 [.t 7]),oP 9 (.un .not (.t 8)),mV 10 9,⟨some 11,some (10,false),.mv (.t 1)⟩,⟨some 12,some (10,false),.call 44 [.t 11]⟩,⟨some 13,some (10,false),.un .not (.t 12)⟩,oP 14 (.pick (.t 10) (.c (.bool true)) (.t 13))] (.cond (.t 14) (sR [oP 4 (.mv (.c s0))] .ret) .skip)) (sR [mV 16 0,mV 17 1,oP 18 (.call 46 [.t 17]),mV 19 1,oP 20 (.call 45 [.t 16,.t 18,.t 19,.c (.bool false)]),mV 15 20,eX 21 15 0,eX 22 15 1,mV 5 21,mV 6 22] (sR [mV 23 6,oP 24 (.call 47 [.t 23,.c s0]),mV 4 24] .ret)))
theorem dg17:Dg Tryz.prog 17 Tryz.f17 ic17 [(.t 4)]:=⟨Tryz.func17,by kernel_rfl,by kernel_rfl⟩
theorem c17 (m:List Pair) (t r:B) (hm:mapOk m=true) (ht:t.length≤40) (hr:mapTextIn m t=r) (hne:r≠[]) (hrl:r.length≤2000):FnR Tryz.prog G 17 [.sl 3 (m.map Pair.row),.str t] (.str r):=by
  refine mF dg17 Tryz.ntmps17 ?_
  have hml:=(mapOk_ports hm).2
  have hmp:=(mapOk_ports hm).1
  have htx:txOk t=true:=by
    cases h:txOk t with
    | true=>rfl
    | false=>simp [mapTextIn,h] at hr;exact absurd hr hne
  have hrr:(turned m (pieces t) t false).2.flatten=r:=by
    rw [← hr,mapTextIn,hm,htx]
    rfl
  have hpl:=pieces_len t
  have f1:=c43 m (by omega)
  have f2:=c44 t (by omega)
  have f3:=c46 t (by omega)
  have f4:=c45 m (pieces t) t false hmp (by omega) (by omega) (by omega) (pieces_fits t)
  have f5:=c47 (turned m (pieces t) t false).2 [] (by rw [turned_len];omega) (by rw [join_flat,hrr];omega)
  rw [join_flat,hrr] at f5
  rw [hm] at f1
  rw [htx] at f2
  generalize turned m (pieces t) t false=x at *
  simp only [ic17,go_sem]
  with_reducible repeat' (first|refine br ?_ ?_<;>intro h e<;>(try simp only [e,go_sem])<;>clear e|rw [i64w (by omega)]|refine sd ?_<;>try simp only [go_sem]|(first|refine cr (f1 ..) ?_|refine cr (f2 ..) ?_|refine cr (f3 ..) ?_|refine cr (f4 ..) ?_|refine cr (f5 ..) ?_)<;>try simp only [go_sem]|fail)
def ic14:IC:=sR [oP 1 (.box 33 (.t 0)),oP 2 (.mv (.c (.bool false)))] (sR [fD 3 1 1,fD 4 0 3,lD 5 1 4,oP 6 (.len (.t 5)),oP 7 (.bin .leq (.t 6) (.c (.int .i64 7))),mV 2 7] .ret)
theorem dg14:Dg Tryz.prog 14 Tryz.f14 ic14 [(.t 2)]:=⟨Tryz.func14,by kernel_rfl,by kernel_rfl⟩
theorem c14 (w:M.World):FnR Tryz.prog G 14 [.agg [.sl 10 (w.convs.map Conv.row),.sl 3 (w.door.map.map Pair.row),.sl 8 (w.door.flows.map Flw.row),.sl 7 (w.nets.map Pk.row)]] (.bool (decide ((w.door.map.length:Int)≤7))):=by
  refine mF dg14 Tryz.ntmps14 ?_
  simp only [ic14,go_sem]
end Go.Proofs.YtggifndkolojmaaGreatDoor.W
