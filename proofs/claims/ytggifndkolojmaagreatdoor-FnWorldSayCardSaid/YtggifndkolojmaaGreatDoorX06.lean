/- Part 6 of the proof: the walk over values, the plain model, contracts of the functions of the program. -/
import Derived.Test.YtggifndkolojmaaGreatDoorX05
import Derived.Test.YtggifndkolojmaaGreatDoorX04
import Derived.Test.YtggifndkolojmaaGreatDoorX02
import Derived.Test.YtggifndkolojmaaGreatDoorX03
import Derived.Shelf.Strings.OnBuilder
set_option linter.all false
namespace Go.Proofs.YtggifndkolojmaaGreatDoor.W
open Go Go.RowKit Go.Proofs Go.Proofs.YtggifndkolojmaaGreatDoor.VL Go.Proofs.YtggifndkolojmaaGreatDoor.M
attribute [local congr] optK_congr guardK_congr condK_congr runT_congr runD_congr wpI_congr CallV_congr LoopI_congr pureK_congr effK_congr calK_congr stepV_congr doV_congr exN_congr exB_congr retF_congr retQ_congr gK_congr condW_congr ldK_congr stoK_congr
attribute [local go_sem] argL_cons argL_nil argH_nil argH_cons chH_getH wpI_seq wpI_reg wpI_drw wpI_ret cond_k condW_t condW_f wpI_skip wpI_block wpI_exit wpI_loop exN_n exN_r exN_e exB_n exB_r exB_h exB_m runT_k kT_e runT_nil runD_k kD_e runD_nil step_u step_k gK_t gK_f do_mv do_bino bo_add bo_sub bo_mul bo_subu bo_quo bo_rem bo_xor bo_eql bo_neq bo_lss bo_leq bo_gtr bo_geq bo_cat bo_eqs bo_nes do_pick do_call do_cal calK_f do_box do_alloc do_ldk ldK_s do_stok stoK_s do_fad do_nilc do_not do_neg do_len do_lens do_ext do_eqs do_beq do_isn do_cvi do_sls do_idx do_mn do_mx do_build do_mkf do_s2b do_b2s do_slv do_iad do_bsl do_mks do_app ev_t ev_c app_some app_none
attribute [local go_sem] List.nil_append List.cons_append List.append_nil getL_hit getL_miss getH_nil getH_hit getH_miss nm_eq ne_eq Nat.reduceEqDiff not_false_eq_true Nat.reduceAdd Nat.add_zero Nat.zero_add if_true if_false ite_true ite_false pureK_s effK_s optK_s gdV_t gdV_f gdV_s pick_b ge_iff_le gt_iff_lt cond_true cond_false fresh_k cells_agg cells_int cells_bool cells_str cells_own cells_sl cells_nils ld_pv ld_pa ld_ip ldVar_t ldVar_f ldArr_t ldArr_f ldRow_t ldRow_f ldA_s ld1_s fad_pv fad_pa fad_ip nilc_pv nilc_pa nilc_ip not_b neg_i cvi_i ext_t retF_n retF_r
attribute [local go_sem] resV_k rvs_nil rvs_t rvs_c fstO_s consO_s resK_s resL_1 resL_2 resL_3 resL_4  Option.some.injEq List.map_cons List.map_nil List.all_cons List.all_nil Bool.and_true Bool.and_self Bool.not_true Bool.not_false Option.map_some Option.map_none sls_s slsG_s loV_n loV_i hiV_n hiV_i idx_s mn_i mx_i s2b_s b2s_s bytO_s bytes_nil bytes_cons conB_s slv_sl slv_own slv_nils slvG_s slvN_s slvO_s iad_sl iadG_map take_map drop_map List.length_map iad_own iad_view iadO_a iadW_a mks_i rowO_nils rowO_sl rowO_own rowA_a eq_self appG_nils appG_own appO_a guardP_T mapA_s bld_nil mkf_nil bldF_e fill_nil fill_cons mkf_e lens_s len_nils len_sl len_own len_view isn_nile isn_erre List.getElem?_cons_zero List.getElem?_cons_succ List.length_cons List.length_nil decide_true decide_false Int.toNat_natCast Int.cast_ofNat_Int Int.reduceLT Int.reduceLE Int.reduceEq Int.reduceAdd Int.reduceSub Int.reduceMul Int.reduceNeg Int.reduceToNat List.getD_cons_zero List.getD_cons_succ not_true_eq_false not_false_eq_true Bool.false_eq_true Bool.true_eq_false reduceCtorEq
attribute [local go_sem] E.row Pc.row Pair.row Part.row Strm.row Flw.row Pk.row Door.row Conv.row World.row Ev.row rdV E.eta Pc.eta Pair.eta Part.eta Strm.eta Pk.eta Flw.eta Conv.eta Door.eta World.eta Ev.eta
attribute [local go_sem] sub_ok st_pv st_pa stVar_v stArr_a Nat.le_refl List.drop_zero List.drop_succ_cons List.take_succ_cons List.take_zero setR Nat.reduceLeDiff
attribute [local go_sem] wk_bot wk2_bot wk1_bot wk_undef wk_tup_e wk2_agg_e wk_agg_e wk1_fn_e wk2_fn_e wk_fn_e wkl_nil wkl_cons wkh_var_e wkh_arr_e wkh_fresh_e wkh_dead_v wkh_dead_a wkh_dead_d wk0_undef wk0_int wk0_bool wk0_str wk0_nils wk0_nils_sl wk0_nilp wk0_nile wk0_erre wk0_sl wk0_iptr wk0_own wk0_view wk0_pv wk0_pa fzA_a fzW_a fzP_v wk0_own_sl wk0_view_sl wk0_pv_iptr WkS_nil WkS_cons WkN_nil WkN_cons nonB_nil nonB_cons getN_nil getN_hit getN_miss pinOk_0 pinOk_s and_true true_and and_self
attribute [local go_sem] bot_int one_int unt_int clo_int bot_bool one_bool unt_bool clo_bool bot_str one_str unt_str clo_str bot_nils one_nils unt_nils clo_nils bot_nilp one_nilp unt_nilp clo_nilp bot_nile one_nile unt_nile clo_nile bot_erre one_erre unt_erre clo_erre bot_raw one_raw unt_raw clo_raw bot_sl one_sl unt_sl clo_sl bot_own one_own unt_own clo_own bot_view one_view unt_view clo_view bot_pv one_pv unt_pv clo_pv bot_pa one_pa unt_pa clo_pa bot_iptr one_iptr unt_iptr clo_iptr unt_agg unt_fn one_fn
attribute [local go_sem] rn_tup rn_agg rn2_agg rn_fn rn2_fn rnfn1 rn_bot rn2_bot rn1_bot rn0_int rn0_bool rn0_str rn0_nils rn0_nilp rn0_nile rn0_erre rn0_sl rn0_iptr rn0_own rn0_view rn0_pv rn0_pa hrn_var hrn_arr hrn_dead outU_nil outU_cons deads_nil deads_cons bk_ge bk_lt nsF_0 nsF_s chH_0 chH_s chH_n newN_e andB_s eqR_nil eqR_i eqR_b eqR_s mapX_f mapX_t eqs_a beq_f beq_t live_arr live_var nsl_nil nsl_cons Nat.reduceMul Nat.reduceLT Nat.zero_le Nat.not_lt_zero
attribute [local go_sem] mV lD lA fD bN eX oP nP sR i0 s0
def worldA (w:M.World) (r:V) (out:List Hs):Prop:=r=.agg [.own 0 w.convs.length,.own 1 w.door.map.length,.own 2 w.door.flows.length,.own 3 w.nets.length]∧out=[.arr 41 10 (w.convs.map Conv.row),.arr 64 3 (w.door.map.map Pair.row),.arr 46 8 (w.door.flows.map Flw.row),.arr 54 7 (w.nets.map Pk.row)]
theorem worldRet {w:M.World} {l:List (Nat × V)} {mm:List (Nat × Hs)} {d c:Nat} (n0 n1 n2 n3:Nat) (h4:getL l d=.pv c 0)
    (m4:getH mm c=.var 33 [.own n0 w.convs.length,.own n1 w.door.map.length,.own n2 w.door.flows.length,.own n3 w.nets.length])
    (m0:getH mm n0=.arr 41 10 (w.convs.map Conv.row)) (m1:getH mm n1=.arr 64 3 (w.door.map.map Pair.row)) (m2:getH mm n2=.arr 46 8 (w.door.flows.map Flw.row)) (m3:getH mm n3=.arr 54 7 (w.nets.map Pk.row))
    (hne:[n0,n1,n2,n3].Nodup):retQ [.cell d 4 true] 0 (worldA w) .ret ⟨getL l,getH mm⟩:=by
  refine retN (.agg [.own 0 w.convs.length,.own 1 w.door.map.length,.own 2 w.door.flows.length,.own 3 w.nets.length]) [.arr 41 10 (w.convs.map Conv.row),.arr 64 3 (w.door.map.map Pair.row),.arr 46 8 (w.door.flows.map Flw.row),.arr 54 7 (w.nets.map Pk.row)] [(0,n0),(1,n1),(2,n2),(3,n3)] ?_ ⟨rfl,rfl⟩ ?_ (by simpa [argH,getN] using hne) (by simp only [go_sem])
  · simp only [go_sem,h4,m4]
  · simp only [go_sem,m0,m1,m2,m3]
theorem opt_b (o:Option Pk):(bif o.isSome then some (o.getD .zero) else none)=o:=by cases o<;>rfl
def ic131:IC:=sR [oP 2 (.box 33 (.t 0)),oP 3 (.box 39 (.t 1)),oP 4 (.mv (.c i0))] (.seq (sR [oP 5 (.mv (.c i0))] (.block 0 (.loop (.seq (sR [mV 6 5,fD 7 1 2,fD 8 0 7,lD 9 1 8,oP 10 (.len (.t 9)),bN 11 .lss 6 10] (.cond (.t 11) .skip (.exit 0))) (.seq (.block 1 (.seq (.drw [0,1,3,0,15,31,63,0,255] [(0,fD 14 1 2),(1,fD 15 0 14),(2,lD 16 1 15),(3,mV 17 5),(4,oP 18 (.iad 3 (.t 16) (.t 17))),(5,fD 19 1 18),(6,lA 20 2 19),(7,lA 21 2 3),(8,oP 22 (.eqs false [.i,.i] (.t 20) (.t 21)))]) (.cond (.t 22) (sR [fD 23 1 2,fD 24 0 23,lD 25 1 24,mV 26 5,oP 27 (.iad 3 (.t 25) (.t 26)),fD 28 0 27,lD 29 1 28,mV 4 29] .ret) .skip))) (.reg [mV 12 5,oP 13 (.bin .add (.t 12) (.c (.int .i64 1))),mV 5 13])))))) (sR [oP 4 (.mv (.c i0))] .ret))
theorem dg131:Dg Tryz.prog 131 Tryz.f131 ic131 [(.t 4)]:=⟨Tryz.func131,by kernel_rfl,by kernel_rfl⟩
theorem c131 (w:M.World) (i:E) (hl:w.door.map.length≤2000000):FnR Tryz.prog G 131 [.agg [.sl 10 (w.convs.map Conv.row),.sl 3 (w.door.map.map Pair.row),.sl 8 (w.door.flows.map Flw.row),.sl 7 (w.nets.map Pk.row)],.agg [.int .i64 i.a,.int .i64 i.p]] (.int .i64 (portOf w.door.map i)):=by
  refine mF dg131 Tryz.ntmps131 ?_
  simp only [ic131,go_sem]
  refine loopN (fun k:Nat=>⟨getL [(2,.pv 1002 0),(3,.pv 1003 0),(5,.int .i64 (k:Int))],getH [(1002,.var 33 [.sl 10 (w.convs.map Conv.row),.sl 3 (w.door.map.map Pair.row),.sl 8 (w.door.flows.map Flw.row),.sl 7 (w.nets.map Pk.row)]),(1003,.var 39 [.int .i64 i.a,.int .i64 i.p])]⟩) (fun k=>w.door.map.length - k)
    (fun k=>k≤w.door.map.length∧portOf w.door.map i=portOf (w.door.map.drop k) i) 0 (leQ []) ⟨Nat.zero_le _,by simp⟩ ?_
  intro k ⟨hk,ha⟩
  simp only [go_sem]
  by_cases h:(k:Int)<w.door.map.length
  · have hil:k<w.door.map.length:=by omega
    have hg:w.door.map.getD k default=w.door.map[k]:=by simp [List.getD,hil]
    rw [List.drop_eq_getElem_cons hil,portOf_cons] at ha
    simp only [eq_true h,go_sem]
    with_reducible repeat' (first|refine br ?_ ?_<;>intro h e<;>(try simp only [e,go_sem,hg,E.ext_iff'])<;>clear e|rw [i64w (by omega)]|refine sd ?_<;>try simp only [go_sem,hg,E.ext_iff']|fail)
    · rw [if_pos (by assumption)] at ha
      rw [ha]
    · rw [if_neg (by assumption)] at ha
      exact ⟨k+1,by omega,⟨by omega,ha⟩,(leQ [])⟩
  · simp only [eq_false h,go_sem]
    have:k=w.door.map.length:=by omega
    subst this
    rw [ha,List.drop_length];rfl
def ic83:IC:=sR [oP 2 (.box 33 (.t 0)),oP 3 (.box 54 (.t 1)),oP 4 (.mv (.c (.bool false)))] (.seq (sR [oP 5 (.mv (.c i0))] (.block 0 (.loop (.seq (sR [mV 6 5,fD 7 0 2,lD 8 1 7,oP 9 (.len (.t 8)),bN 10 .lss 6 9] (.cond (.t 10) .skip (.exit 0))) (.seq (.block 1 (.seq (.drw [0,1,0,7,15,31,0,64,255] [(0,fD 13 0 2),(1,lD 14 1 13),(2,mV 15 5),(3,oP 16 (.iad 10 (.t 14) (.t 15))),(4,fD 17 2 16),(5,lA 18 2 17),(6,fD 19 1 3),(7,lA 20 2 19),(8,oP 21 (.eqs false [.i,.i] (.t 18) (.t 20)))]) (.cond (.t 21) (sR [oP 4 (.mv (.c (.bool false)))] .ret) .skip))) (.reg [mV 11 5,oP 12 (.bin .add (.t 11) (.c (.int .i64 1))),mV 5 12])))))) (sR [lA 22 7 3,oP 23 (.call 51 [.t 22]),mV 24 23,⟨some 25,some (24,true),.fad 1 (.t 3)⟩,⟨some 26,some (24,true),.ld 2 true (.t 25)⟩,⟨some 27,some (24,true),.call 108 [.t 26]⟩,oP 28 (.pick (.t 24) (.t 27) (.c (.bool false))),mV 29 28,⟨some 30,some (29,true),.fad 3 (.t 3)⟩,⟨some 31,some (29,true),.ld 2 true (.t 30)⟩,⟨some 32,some (29,true),.call 133 [.t 31]⟩,oP 33 (.pick (.t 29) (.t 32) (.c (.bool false))),mV 4 33] .ret))
theorem dg83:Dg Tryz.prog 83 Tryz.f83 ic83 [(.t 4)]:=⟨Tryz.func83,by kernel_rfl,by kernel_rfl⟩
theorem c83 (w:M.World) (p:Pk) (hl:w.convs.length≤2000000) (ht:p.text.length≤2000000):FnR Tryz.prog G 83 [.agg [.sl 10 (w.convs.map Conv.row),.sl 3 (w.door.map.map Pair.row),.sl 8 (w.door.flows.map Flw.row),.sl 7 (w.nets.map Pk.row)],.agg [.int .i64 p.kind,.int .i64 p.frm.a,.int .i64 p.frm.p,.int .i64 p.to.a,.int .i64 p.to.p,.int .i64 p.at_,.str p.text]] (.bool (stranger w p)):=by
  refine mF dg83 Tryz.ntmps83 ?_
  simp only [ic83,go_sem]
  refine loopN (fun k:Nat=>⟨getL [(2,.pv 1002 0),(3,.pv 1003 0),(5,.int .i64 (k:Int))],getH [(1002,.var 33 [.sl 10 (w.convs.map Conv.row),.sl 3 (w.door.map.map Pair.row),.sl 8 (w.door.flows.map Flw.row),.sl 7 (w.nets.map Pk.row)]),(1003,.var 54 [.int .i64 p.kind,.int .i64 p.frm.a,.int .i64 p.frm.p,.int .i64 p.to.a,.int .i64 p.to.p,.int .i64 p.at_,.str p.text])]⟩) (fun k=>w.convs.length - k)
    (fun k=>k≤w.convs.length∧(w.convs.take k).any (fun c=>decide (c.out=p.frm))=false) 0 (leQ []) ⟨Nat.zero_le _,by simp⟩ ?_
  intro k ⟨hk,ha⟩
  simp only [go_sem]
  by_cases h:(k:Int)<w.convs.length
  · have hil:k<w.convs.length:=by omega
    have hg:w.convs.getD k default=w.convs[k]:=by simp [List.getD,hil]
    simp only [eq_true h,go_sem]
    with_reducible repeat' (first|refine br ?_ ?_<;>intro h e<;>(try simp only [e,go_sem,hg,E.ext_iff'])<;>clear e|rw [i64w (by omega)]|refine sd ?_<;>try simp only [go_sem,hg,E.ext_iff']|fail)
    · have:w.convs.any (fun c=>decide (c.out=p.frm))=true:=List.any_eq_true.2 ⟨_,List.getElem_mem hil,by simpa using (by assumption)⟩
      simp [stranger,this]
    · refine ⟨k+1,by omega,⟨by omega, ?_⟩,(leQ [])⟩
      rw [List.take_add_one,List.getElem?_eq_getElem hil]
      simp only [Option.toList_some,List.any_append,ha,List.any_cons,List.any_nil,Bool.or_false,Bool.false_or,decide_eq_false_iff_not]
      assumption
  · simp only [eq_false h,go_sem]
    have:k=w.convs.length:=by omega
    subst this
    rw [List.take_length] at ha
    have c1:=c51 p ht
    with_reducible repeat' (first|refine br ?_ ?_<;>intro h e<;>(try simp only [e,go_sem])<;>clear e|rw [i64w (by omega)]|refine sd ?_<;>try simp only [go_sem]|(first|refine cr (c1 ..) ?_|refine cr (c108 ..) ?_|refine cr (c133 ..) ?_)<;>try simp only [go_sem]|fail)
    all_goals simp_all [stranger,Pk.inward]
theorem say_port (c:Conv) (port n m:Int):say c true port n m=say c true 0 n m:=rfl
def ic80:IC:=sR [oP 2 (.box 33 (.t 0)),oP 3 (.box 56 (.t 1)),oP 4 (.alloc 54 [i0,i0,i0,i0,i0,i0,s0]),oP 5 (.mv (.c (.bool false)))] (.seq (sR [fD 7 1 3,lD 8 1 7,fD 9 0 2,lD 10 1 9,oP 11 (.len (.t 10)),oP 12 (.bin .sub (.t 11) (.c (.int .i64 1))),oP 13 (.call 63 [.t 8,.c i0,.t 12]),oP 14 (.un .not (.t 13))] (.cond (.t 14) (sR [oP 15 (.build [i0,i0,i0,i0,i0,i0,s0] []),nP (.sto 7 (.t 4) (.t 15)),oP 5 (.mv (.c (.bool false)))] .ret) .skip)) (sR [fD 16 0 2,lD 17 1 16,fD 18 1 3,lD 19 1 18,oP 20 (.iad 10 (.t 17) (.t 19)),lA 21 10 20,oP 6 (.alloc 41 [i0,i0,i0,i0,s0,s0,i0,i0,s0,s0]),nP (.sto 10 (.t 6) (.t 21))] (.seq (.drw [0,0,2,6,0,0,32,112,0,256,0,1024,4095,8191,8191,32767,65535] [(0,lA 22 10 6),(1,fD 23 0 3),(2,lD 24 1 23),(3,oP 25 (.bin .eql (.t 24) (.c (.int .i64 1)))),(4,lA 26 4 2),(5,fD 27 0 6),(6,lA 28 2 27),(7,oP 29 (.call 131 [.t 26,.t 28])),(8,fD 30 2 3),(9,lD 31 1 30),(10,fD 32 3 3),(11,lD 33 1 32),(12,oP 34 (.call 130 [.t 22,.t 25,.t 29,.t 31,.t 33])),(13,eX 35 34 0),(14,eX 36 34 1),(15,nP (.sto 7 (.t 4) (.t 35))),(16,mV 5 36)]) .ret)))
theorem dg80:Dg Tryz.prog 80 Tryz.f80 ic80 [(.cell 4 7 true),(.t 5)]:=⟨Tryz.func80,by kernel_rfl,by kernel_rfl⟩
theorem c80 (w:M.World) (e:Ev) (hm:w.door.map.length≤2000000) (hc:w.convs.length≤2000000) (ht:∀ c∈w.convs,c.up.length≤2000000∧c.down.length≤2000000):FnR Tryz.prog G 80 [.agg [.sl 10 (w.convs.map Conv.row),.sl 3 (w.door.map.map Pair.row),.sl 8 (w.door.flows.map Flw.row),.sl 7 (w.nets.map Pk.row)],.agg [.int .i64 e.kind,.int .i64 e.a,.int .i64 e.b,.int .i64 e.c,.int .i64 e.pkt.kind,.int .i64 e.pkt.frm.a,.int .i64 e.pkt.frm.p,.int .i64 e.pkt.to.a,.int .i64 e.pkt.to.p,.int .i64 e.pkt.at_,.str e.pkt.text]]
    (.tup [.agg (Pk.row ((sayW w (decide (e.kind=1)) e.a e.b e.c).getD .zero)),.bool (sayW w (decide (e.kind=1)) e.a e.b e.c).isSome]):=by
  refine mF dg80 Tryz.ntmps80 ?_
  simp only [ic80,go_sem]
  generalize hw:within e.a 0 ((w.convs.length:Int) - 1)=b
  have hw2:b=true→0≤e.a∧e.a≤(w.convs.length:Int) - 1:=fun h=>M.within_iff.1 (hw.trans h)
  rw [i64w (by omega)]
  refine callR (c63 e.a 0 ((w.convs.length:Int) - 1)) rfl rfl ?_
  rw [hw]
  cases b<;>simp only [go_sem]
  · have:sayW w (decide (e.kind=1)) e.a e.b e.c=none:=by simp [sayW,hw]
    rw [this]
    simp [Pk.zero,E.zero]
  have hw2:=hw2 rfl
  have hil:e.a.toNat<w.convs.length:=by omega
  have hg:w.convs.getD e.a.toNat default=w.convs[e.a.toNat]:=by simp [List.getD,hil]
  have hcv:=ht _ (List.getElem_mem hil)
  have hx:sayW w (decide (e.kind=1)) e.a e.b e.c=say w.convs[e.a.toNat] (decide (e.kind=1)) (portOf w.door.map w.convs[e.a.toNat].ins) e.b e.c:=by
    simp only [sayW,hw,if_true,List.getElem?_eq_getElem hil]
    cases decide (e.kind=1)
    · rfl
    · simp only [cond_true];rw [say_port _ (portOf _ _)]
  rw [hx]
  generalize hcc:w.convs[e.a.toNat]=c at *
  have p1:=c131 w c.ins hm
  have p2:=c130 c (decide (e.kind=1)) (portOf w.door.map c.ins) e.b e.c hcv.1 hcv.2
  with_reducible repeat' (first|refine br ?_ ?_<;>intro h e<;>(try simp only [e,go_sem,hg])<;>clear e|rw [i64w (by omega)]|refine sd ?_<;>try simp only [go_sem,hg]|(first|refine cr (p1 ..) ?_|refine cr (p2 ..) ?_)<;>try simp only [go_sem,hg]|fail)
def ic81:IC:=sR [oP 3 (.box 33 (.t 0)),oP 4 (.box 54 (.t 1)),oP 6 (.alloc 33 [.nils,.nils,.nils,.nils])] (.seq (sR [mV 7 2,mV 8 7,⟨some 9,some (8,true),.fad 3 (.t 3)⟩,⟨some 10,some (8,true),.ld 1 false (.t 9)⟩,⟨some 11,some (8,true),.len (.t 10)⟩,⟨some 12,some (8,true),.bin .lss (.t 11) (.c (.int .i64 10))⟩,oP 13 (.pick (.t 8) (.t 12) (.c (.bool false)))] (.cond (.t 13) (.reg [fD 14 3 3,lD 15 1 14,lA 16 7 4,oP 17 (.bsl 54 7 [.t 16]),oP 18 (.app 54 7 (.t 15) (.t 17)),fD 19 3 3,nP (.sto 1 (.t 19) (.t 18))]) .skip)) (sR [lA 20 4 3,nP (.sto 4 (.t 6) (.t 20))] .ret))
theorem dg81:Dg Tryz.prog 81 Tryz.f81 ic81 [(.cell 6 4 true)]:=⟨Tryz.func81,by kernel_rfl,by kernel_rfl⟩
theorem c81 (w:M.World) (p:Pk) (ok:Bool) (hn:w.nets.length≤2000000):FnP Tryz.prog G 81 0 [.arr 41 10 (w.convs.map Conv.row),.arr 64 3 (w.door.map.map Pair.row),.arr 46 8 (w.door.flows.map Flw.row),.arr 54 7 (w.nets.map Pk.row)] [.agg [.own 0 w.convs.length,.own 1 w.door.map.length,.own 2 w.door.flows.length,.own 3 w.nets.length],.agg [.int .i64 p.kind,.int .i64 p.frm.a,.int .i64 p.frm.p,.int .i64 p.to.a,.int .i64 p.to.p,.int .i64 p.at_,.str p.text],.bool ok] (worldA (send w (bif ok then some p else none))):=by
  refine mP dg81 Tryz.ntmps81 ⟨_,_,rfl,rfl⟩ ?_
  simp only [ic81,go_sem]
  have hno:send w none=w:=rfl
  have hfull:¬ w.nets.length<10→send w (some p)=w:=fun h=>by simp only [send];rw [if_neg h]
  cases ok<;>simp only [go_sem]
  · rw [hno]
    exact worldRet (c:=1006) 0 1 2 3 (by simp only [go_sem]) (by simp only [go_sem]) (by simp only [go_sem]) (by simp only [go_sem]) (by simp only [go_sem]) (by simp only [go_sem]) (by decide)
  with_reducible repeat' (first|refine br ?_ ?_<;>intro h e<;>(try simp only [e,go_sem])<;>clear e|rw [i64w (by omega)]|refine sd ?_<;>try simp only [go_sem]|fail)
  · have hx:send w (some p)={ w with nets:=w.nets++[p] }:=by simp only [send];rw [if_pos (by omega)]
    rw [hx]
    refine worldRet (c:=1006) 0 1 2 1018 (by simp only [go_sem]) (by simp only [go_sem];simp) (by simp only [go_sem]) (by simp only [go_sem]) (by simp only [go_sem]) (by simp only [go_sem];simp [Pk.row]) (by decide)
  · rw [hfull (by omega)]
    exact worldRet (c:=1006) 0 1 2 3 (by simp only [go_sem]) (by simp only [go_sem]) (by simp only [go_sem]) (by simp only [go_sem]) (by simp only [go_sem]) (by simp only [go_sem]) (by decide)
def putA (m:List Pair) (s:Strm) (n:Int) (t:B) (out:Bool) (r:V) (o:List Hs):Prop :=
  (put m s n t out).1=m∧r=.tup [.own 0 m.length,.agg [.str (put m s n t out).2.1.inn,.sl 2 ((put m s n t out).2.1.parts.map Part.row)],.bool (put m s n t out).2.2]∧o=[.arr 64 3 (m.map Pair.row)]
def putB (m:List Pair) (s:Strm) (n:Int) (t:B) (out:Bool) (r:V) (o:List Hs):Prop :=
  (put m s n t out).2.2=true∧r=.tup [.own 1 (put m s n t out).1.length,.agg [.str (put m s n t out).2.1.inn,.sl 2 ((put m s n t out).2.1.parts.map Part.row)],.bool true]∧o=[.dead,.arr 64 3 ((put m s n t out).1.map Pair.row)]
theorem live_dead:Hs.live .dead=false:=of_eq_true (eq_self _)
theorem mkParts_nil (l:List Pc):mkParts l []=[]:=by cases l<;>rfl
theorem drop_take_i (l:B) (d n:Nat):(l.take ((d:Int)+(n:Int)).toNat).drop d=(l.drop d).take n:=by
  rw [List.drop_take];congr 1;omega
def ic193:IC:=sR [oP 6 (.box 44 (.t 1)),oP 10 (.mv (.c .nils)),oP 11 (.alloc 44 [s0,.nils]),oP 12 (.mv (.c (.bool false)))] (sR [fD 21 0 6,lD 22 1 21,oP 23 (.lens (.t 22)),mV 13 23] (.seq (sR [mV 24 2,mV 25 13,bN 26 .gtr 24 25,mV 27 26,⟨some 28,some (27,false),.mv (.t 2)⟩,⟨some 29,some (27,false),.mv (.t 3)⟩,⟨some 30,some (27,false),.lens (.t 29)⟩,⟨some 31,some (27,false),.bin .add (.t 28) (.t 30)⟩,⟨some 32,some (27,false),.bin .gtr (.t 31) (.c (.int .i64 40))⟩,oP 33 (.pick (.t 27) (.c (.bool true)) (.t 32))] (.cond (.t 33) (.seq (.drw [0,0,1,7,15] [(0,mV 34 0),(1,lA 35 2 6),(2,mV 10 34),(3,nP (.sto 2 (.t 11) (.t 35))),(4,oP 12 (.mv (.c (.bool false))))]) .ret) .skip)) (.seq (sR [mV 36 2,mV 37 3,oP 38 (.lens (.t 37)),bN 39 .add 36 38,mV 40 13,bN 41 .leq 39 40] (.cond (.t 41) (.seq (.drw [0,0,1,7,15] [(0,mV 42 0),(1,lA 43 2 6),(2,mV 10 42),(3,nP (.sto 2 (.t 11) (.t 43))),(4,oP 12 (.mv (.c (.bool true))))]) .ret) .skip)) (.seq (.drw [0,1,0,0,0,24,60,127,255] [(0,fD 44 0 6),(1,lD 45 1 44),(2,mV 46 3),(3,mV 47 13),(4,mV 48 2),(5,bN 49 .sub 47 48),(6,oP 50 (.sls (.t 46) (some (.t 49)) none)),(7,bN 51 .add 45 50),(8,mV 14 51)]) (sR [lA 52 2 6,oP 53 (.call 202 [.t 52]),mV 15 53] (sR [mV 54 14,oP 55 (.call 174 [.t 54]),mV 16 55] (sR [mV 56 14,oP 57 (.bsl 125 2 []),fD 58 1 6,lD 59 1 58,oP 60 (.app 125 2 (.t 57) (.t 59)),oP 61 (.build [s0,.nils] [(0,(1,.t 56)),(1,(1,.t 60))]),oP 17 (.alloc 44 [s0,.nils]),nP (.sto 2 (.t 17) (.t 61))] (.seq (sR [fD 62 1 6,lD 63 1 62,oP 64 (.len (.t 63)),mV 18 64] (.block 0 (.loop (.seq (sR [mV 65 18,mV 66 16,oP 67 (.len (.t 66)),bN 68 .lss 65 67] (.cond (.t 68) .skip (.exit 0))) (.seq (.block 1 (sR [mV 71 14,mV 72 15,mV 73 15,mV 74 16,mV 75 18,oP 76 (.iad 4 (.t 74) (.t 75)),fD 77 0 76,lD 78 1 77,bN 79 .add 73 78,oP 80 (.sls (.t 71) (some (.t 72)) (some (.t 79))),mV 19 80] (sR [oP 20 (.mv (.c s0))] (.seq (sR [mV 81 4] (.cond (.t 81) (.reg [mV 83 0,mV 84 16,mV 85 18,oP 86 (.iad 4 (.t 84) (.t 85)),lA 87 4 86,mV 88 19,oP 89 (.call 203 [.t 83,.t 87,.t 88]),mV 82 89,eX 90 82 0,eX 91 82 1,mV 0 90,mV 20 91]) (.reg [mV 92 0,mV 93 16,mV 94 18,oP 95 (.iad 4 (.t 93) (.t 94)),lA 96 4 95,mV 97 19,oP 98 (.call 204 [.t 92,.t 96,.t 97]),mV 20 98]))) (.seq (.drw [0,1,0,0,12,28,60,0,252,508,1023,2047,4095] [(0,fD 99 1 17),(1,lD 100 1 99),(2,mV 101 16),(3,mV 102 18),(4,oP 103 (.iad 4 (.t 101) (.t 102))),(5,fD 104 0 103),(6,lD 105 1 104),(7,mV 106 20),(8,oP 107 (.build [i0,s0] [(0,(1,.t 105)),(1,(1,.t 106))])),(9,oP 108 (.bsl 125 2 [.t 107])),(10,oP 109 (.app 125 2 (.t 100) (.t 108))),(11,fD 110 1 17),(12,nP (.sto 1 (.t 110) (.t 109)))]) (.reg [mV 111 15,mV 112 16,mV 113 18,oP 114 (.iad 4 (.t 112) (.t 113)),fD 115 0 114,lD 116 1 115,bN 117 .add 111 116,mV 15 117])))))) (.reg [mV 69 18,oP 70 (.bin .add (.t 69) (.c (.int .i64 1))),mV 18 70])))))) (.seq (.drw [0,0,1,7,15] [(0,mV 118 0),(1,lA 119 2 17),(2,mV 10 118),(3,nP (.sto 2 (.t 11) (.t 119))),(4,oP 12 (.mv (.c (.bool true))))]) .ret)))))))))
theorem dg193:Dg Tryz.prog 193 Tryz.f193 ic193 [(.t 10),(.cell 11 2 true),(.t 12)]:=⟨Tryz.func193,by kernel_rfl,by kernel_rfl⟩
theorem put_F (m:List Pair) (s:Strm) (n:Int) (t:B) (out:Bool) (h:(behind s.inn n t).2=false):put m s n t out=(m,s,false):=by simp [put,h]
theorem put_T (m:List Pair) {s:Strm} (n:Int) (t:B) (out:Bool) (hs:strmOk s=true) (h:¬ (n>s.inn.length∨n+t.length>40)) (h2:n+t.length≤s.inn.length):put m s n t out=(m,s,true):=by
  have hb:behind s.inn n t=(s.inn,true):=by
    unfold behind;rw [if_neg (by simpa using h),if_pos h2]
  obtain ⟨d1,d2⟩:=strmOk_done hs
  have:(pieces s.inn).drop s.parts.length=[]:=by rw [d2,List.drop_length]
  simp [put,hb,this,turned,mkParts]
theorem turned_false:∀ (l:List Pc) (m:List Pair) (s:B),(turned m l s false).1=m
  | [],m,s=>rfl
  | p :: ps,m,s=>by simp only [turned];rw [turned_false ps];rfl
theorem c193F (m:List Pair) (s:Strm) (n:Int) (t:B) (h:PutOk m s n t):FnP Tryz.prog G 193 1 [.arr 64 3 (m.map Pair.row)] [.own 0 m.length,.agg [.str s.inn,.sl 2 (s.parts.map Part.row)],.int .i64 n,.str t,.bool false] (putA m s n t false):=by
  refine mP dg193 Tryz.ntmps193 ?_ ?_
  · refine ⟨_,_, ?_,rfl,rfl⟩
    cases hb:(behind s.inn n t).2
    · rw [put_F _ _ _ _ _ hb]
    · simp [put,hb,turned_false]
  obtain ⟨hm,hs,hn,ht⟩:=h
  obtain ⟨hp,hml⟩:=mapOk_ports hm
  obtain ⟨s1,s2,s3⟩:=strmOk_B hs
  have keep:∀ l mm ok,put m s n t false=(m,s,ok)→getL l 10=.own 0 m.length→getL l 11=.pv 1011 0→getL l 12=.bool ok→getH mm 0=.arr 64 3 (m.map Pair.row)→getH mm 1011=.var 44 [.str s.inn,.sl 2 (s.parts.map Part.row)] →
      retQ [.t 10,.cell 11 2 true,.t 12] 1 (putA m s n t false) .ret ⟨getL l,getH mm⟩:=fun l mm ok h1 h2 h3 h4 h5 h6=>by
    refine retN (.tup [.own 0 m.length,.agg [.str (put m s n t false).2.1.inn,.sl 2 ((put m s n t false).2.1.parts.map Part.row)],.bool (put m s n t false).2.2]) [.arr 64 3 (m.map Pair.row)] [] ?_ ⟨by rw [h1],rfl,rfl⟩ ?_ (by simp [argH]) (by simp only [go_sem])
    · simp only [go_sem,h1,h2,h3,h4,h6]
    · simp only [go_sem,h5]
  simp only [ic193,go_sem]
  with_reducible repeat' (first|rw [i64w (by omega)];try simp only [go_sem]|refine br ?_ ?_<;>intro h e<;>(try simp only [e,go_sem])<;>clear e|refine sd ?_<;>try simp only [go_sem]|fail)
  · exact keep _ _ _ (put_F _ _ _ _ _ (by unfold behind;rw [if_pos (by simp;omega)])) (by simp only [go_sem]) (by simp only [go_sem]) (by simp only [go_sem]) (by simp only [go_sem]) (by simp only [go_sem])
  · exact keep _ _ _ (put_F _ _ _ _ _ (by unfold behind;rw [if_pos (by simp;omega)])) (by simp only [go_sem]) (by simp only [go_sem]) (by simp only [go_sem]) (by simp only [go_sem]) (by simp only [go_sem])
  · exact keep _ _ _ (put_T _ _ _ _ hs (by omega) (by omega)) (by simp only [go_sem]) (by simp only [go_sem]) (by simp only [go_sem]) (by simp only [go_sem]) (by simp only [go_sem])
  have hb:behind s.inn n t=(s.inn++t.drop (s.inn.length - n).toNat,true):=by
    unfold behind;rw [if_neg (by simp;omega),if_neg (by omega)]
  have hbp:(behind s.inn n t).2=true:=by rw [hb]
  have hfin:∀ mm ts d,PutI m s (behind s.inn n t).1 false mm ts (pieces (behind s.inn n t).1).length d→_:=fun mm ts d h=>put_done hbp h
  have h0:=PutI.init (x:=t.drop (s.inn.length - n).toNat) (out:=false) hp hs
  rw [hb] at hfin
  refine pureG (by simp;omega) ?_
  simp only [List.take_length,go_sem]
  generalize hin:s.inn++t.drop (s.inn.length - n).toNat=inn at *
  have hil:inn.length≤80:=by rw [← hin];simp;omega
  have hpl:=pieces_len inn
  with_reducible repeat' (first|rw [i64w (by omega)];try simp only [go_sem]|refine br ?_ ?_<;>intro h e<;>(try simp only [e,go_sem])<;>clear e|refine sd ?_<;>try simp only [go_sem]|fail)
  refine callR (c202 s ⟨s1,s2,s3⟩) rfl rfl ?_
  simp only [go_sem]
  with_reducible repeat' (first|rw [i64w (by omega)];try simp only [go_sem]|refine br ?_ ?_<;>intro h e<;>(try simp only [e,go_sem])<;>clear e|refine sd ?_<;>try simp only [go_sem]|(first|refine cr (c174 ..) ?_)<;>try simp only [go_sem]|fail)
  refine loopN (fun a:List B × Nat × Nat=>⟨getL [(0,.own 0 m.length),(4,.bool false),(11,.pv 1011 0),(14,.str inn),(15,.int .i64 (a.2.2:Int)),(16,.sl 4 ((pieces inn).map Pc.row)),(17,.pv 1017 0),(18,.int .i64 (a.2.1:Int))],
    getH [(0,.arr 64 3 (m.map Pair.row)),(1011,.var 44 [.str [],.nils]),(1017,.var 44 [.str inn,.own 1060 a.2.1]),(1060,.arr 125 2 ((s.parts++mkParts ((pieces inn).drop s.parts.length) a.1).map Part.row))]⟩) (fun a=>(pieces inn).length - a.2.1)
    (fun a=>PutI m s inn false m a.1 a.2.1 a.2.2) ([],s.parts.length,doneP s.parts) ?_ h0 ?_
  · refine leN [] (by simp only [go_sem];first|done|rfl) ?_ (by simp [getN]) (by simp only [go_sem])
    simp only [go_sem];simp [mkParts_nil]
  intro ⟨ts,i,d⟩ hI
  simp only at hI
  simp only [go_sem]
  have hi:=hI.hi
  by_cases h:(i:Int)<(pieces inn).length
  · obtain ⟨hst1,hst2⟩:=hI.step (by omega)
    have hml2:=mkParts_len2 ((pieces inn).drop s.parts.length) ts (by have:=hI.ht;rw [List.length_drop];omega)
    have hml3:(s.parts++mkParts ((pieces inn).drop s.parts.length) ts).length=i:=by rw [List.length_append,hml2];exact hI.ht
    have hma:=mkParts_app ((pieces inn).drop s.parts.length) ts (pieceIn m ((pieces inn).getD i default) ((inn.drop d).take ((pieces inn).getD i default).size)) (by have:=hI.ht;rw [List.length_drop];omega)
    have hgq:((pieces inn).drop s.parts.length).getD ts.length default=(pieces inn).getD i default:=by
      simp only [List.getD_eq_getElem?_getD,List.getElem?_drop,hI.ht]
    rw [hgq] at hma
    have hht:=hI.ht
    simp only [turn,cond_false] at hst2
    obtain ⟨q,hq⟩:∃ q,(pieces inn).getD i default=q:=⟨_,rfl⟩
    rw [hq] at hst1 hst2 hma
    simp only [eq_true h,go_sem]
    refine effG (by omega) ?_
    simp only [go_sem,hq]
    with_reducible repeat' (first|rw [i64w (by omega)];try simp only [go_sem,hq]|refine br ?_ ?_<;>intro h e<;>(try simp only [e,go_sem,hq])<;>clear e|refine sd ?_<;>try simp only [go_sem,hq]|fail)
    rw [drop_take_i]
    refine callF (c204 m q.size q.named q.e.a q.e.p ((inn.drop d).take q.size) hm) [0] false (by simp only [go_sem];first|done|simp [E.row,Pc.row,Pair.row,Part.row,Flw.row,Pk.row,Conv.row]) (by simp only [List.mem_singleton];rintro c rfl;rfl) rfl (.inr rfl) ?_
    simp only [go_sem,hq]
    with_reducible repeat' (first|rw [i64w (by omega)];try simp only [go_sem,hq]|refine br ?_ ?_<;>intro h e<;>(try simp only [e,go_sem,hq])<;>clear e|refine sd ?_<;>try simp only [go_sem,hq]|fail)
    refine ⟨(ts++[pieceIn m q ((inn.drop d).take q.size)],i+1,d+q.size),by simp only;omega,hst2,leN [(1060,1109)] ?_ ?_ (by simp [getN]) (by simp only [go_sem])⟩
    · simp only [go_sem];simp
    · simp only [go_sem,hma];simp [Part.row]
  · simp only [eq_false h,go_sem]
    have:i=(pieces inn).length:=by omega
    subst this
    with_reducible repeat' (first|refine br ?_ ?_<;>intro h e<;>(try simp only [e,go_sem])<;>clear e|rw [i64w (by omega)]|refine sd ?_<;>try simp only [go_sem]|fail)
    have hfin:=hfin m ts d hI
    refine retN (.tup [.own 0 m.length,.agg [.str inn,.sl 2 ((s.parts++mkParts ((pieces inn).drop s.parts.length) ts).map Part.row)],.bool true]) [.arr 64 3 (m.map Pair.row)] [] ?_ ⟨by rw [hfin],by rw [hfin],rfl⟩ ?_ (by simp [argH]) (by simp only [go_sem])
    · simp only [go_sem]
      have:=hI.ht
      have:=mkParts_len2 ((pieces inn).drop s.parts.length) ts (by rw [List.length_drop];omega)
      first|done|(simp;omega)
    · simp only [go_sem]
def putAB (m:List Pair) (s:Strm) (n:Int) (t:B) (out:Bool) (r:V) (o:List Hs):Prop:=putA m s n t out r o∨putB m s n t out r o
theorem c193T (m:List Pair) (s:Strm) (n:Int) (t:B) (h:PutOk m s n t):FnP Tryz.prog G 193 1 [.arr 64 3 (m.map Pair.row)] [.own 0 m.length,.agg [.str s.inn,.sl 2 (s.parts.map Part.row)],.int .i64 n,.str t,.bool true] (putAB m s n t true):=by
  refine mP dg193 Tryz.ntmps193 ?_ ?_
  · cases hb:(behind s.inn n t).2
    · exact ⟨_,_,.inl ⟨by rw [put_F _ _ _ _ _ hb],rfl,rfl⟩⟩
    · exact ⟨_,_,.inr ⟨by simp [put,hb],rfl,rfl⟩⟩
  obtain ⟨hm,hs,hn,ht⟩:=h
  obtain ⟨hp,hml⟩:=mapOk_ports hm
  obtain ⟨s1,s2,s3⟩:=strmOk_B hs
  have keep:∀ l mm ok,put m s n t true=(m,s,ok)→getL l 10=.own 0 m.length→getL l 11=.pv 1011 0→getL l 12=.bool ok→getH mm 0=.arr 64 3 (m.map Pair.row)→getH mm 1011=.var 44 [.str s.inn,.sl 2 (s.parts.map Part.row)] →
      retQ [.t 10,.cell 11 2 true,.t 12] 1 (putAB m s n t true) .ret ⟨getL l,getH mm⟩:=fun l mm ok h1 h2 h3 h4 h5 h6=>by
    refine retN (.tup [.own 0 m.length,.agg [.str (put m s n t true).2.1.inn,.sl 2 ((put m s n t true).2.1.parts.map Part.row)],.bool (put m s n t true).2.2]) [.arr 64 3 (m.map Pair.row)] [] ?_ (.inl ⟨by rw [h1],rfl,rfl⟩) ?_ (by simp [argH]) (by simp only [go_sem])
    · simp only [go_sem,h1,h2,h3,h4,h6]
    · simp only [go_sem,h5]
  simp only [ic193,go_sem]
  with_reducible repeat' (first|rw [i64w (by omega)];try simp only [go_sem]|refine br ?_ ?_<;>intro h e<;>(try simp only [e,go_sem])<;>clear e|refine sd ?_<;>try simp only [go_sem]|fail)
  · exact keep _ _ _ (put_F _ _ _ _ _ (by unfold behind;rw [if_pos (by simp;omega)])) (by simp only [go_sem]) (by simp only [go_sem]) (by simp only [go_sem]) (by simp only [go_sem]) (by simp only [go_sem])
  · exact keep _ _ _ (put_F _ _ _ _ _ (by unfold behind;rw [if_pos (by simp;omega)])) (by simp only [go_sem]) (by simp only [go_sem]) (by simp only [go_sem]) (by simp only [go_sem]) (by simp only [go_sem])
  · exact keep _ _ _ (put_T _ _ _ _ hs (by omega) (by omega)) (by simp only [go_sem]) (by simp only [go_sem]) (by simp only [go_sem]) (by simp only [go_sem]) (by simp only [go_sem])
  have hb:behind s.inn n t=(s.inn++t.drop (s.inn.length - n).toNat,true):=by
    unfold behind;rw [if_neg (by simp;omega),if_neg (by omega)]
  have hbp:(behind s.inn n t).2=true:=by rw [hb]
  have hfin:∀ mm ts d,PutI m s (behind s.inn n t).1 true mm ts (pieces (behind s.inn n t).1).length d→_:=fun mm ts d h=>put_done hbp h
  have h0:=PutI.init (x:=t.drop (s.inn.length - n).toNat) (out:=true) hp hs
  rw [hb] at hfin
  refine pureG (by simp;omega) ?_
  simp only [List.take_length,go_sem]
  generalize hin:s.inn++t.drop (s.inn.length - n).toNat=inn at *
  have hil:inn.length≤80:=by rw [← hin];simp;omega
  have hpl:=pieces_len inn
  with_reducible repeat' (first|rw [i64w (by omega)];try simp only [go_sem]|refine br ?_ ?_<;>intro h e<;>(try simp only [e,go_sem])<;>clear e|refine sd ?_<;>try simp only [go_sem]|fail)
  refine callR (c202 s ⟨s1,s2,s3⟩) rfl rfl ?_
  simp only [go_sem]
  with_reducible repeat' (first|rw [i64w (by omega)];try simp only [go_sem]|refine br ?_ ?_<;>intro h e<;>(try simp only [e,go_sem])<;>clear e|refine sd ?_<;>try simp only [go_sem]|(first|refine cr (c174 ..) ?_)<;>try simp only [go_sem]|fail)
  refine loopN (fun a:List Pair × List B × Nat × Nat=>⟨getL [(0,.own 5000 a.1.length),(4,.bool true),(11,.pv 1011 0),(14,.str inn),(15,.int .i64 (a.2.2.2:Int)),(16,.sl 4 ((pieces inn).map Pc.row)),(17,.pv 1017 0),(18,.int .i64 (a.2.2.1:Int))],
    getH [(0,.dead),(5000,.arr 64 3 (a.1.map Pair.row)),(1011,.var 44 [.str [],.nils]),(1017,.var 44 [.str inn,.own 1060 a.2.2.1]),(1060,.arr 125 2 ((s.parts++mkParts ((pieces inn).drop s.parts.length) a.2.1).map Part.row))]⟩) (fun a=>(pieces inn).length - a.2.2.1)
    (fun a=>PutI m s inn true a.1 a.2.1 a.2.2.1 a.2.2.2) (m,[],s.parts.length,doneP s.parts) ?_ h0 ?_
  · refine leN' [(5000,0)] (by simp only [go_sem];first|done|rfl) ?_ (by simp [liveN,getN,live_arr,live_var,live_dead]) (by simp only [go_sem])
    simp only [go_sem];simp [mkParts_nil]
  intro ⟨mm,ts,i,d⟩ hI
  simp only at hI
  simp only [go_sem]
  have hi:=hI.hi
  by_cases h:(i:Int)<(pieces inn).length
  · obtain ⟨hst1,hst2⟩:=hI.step (by omega)
    have hml2:=mkParts_len2 ((pieces inn).drop s.parts.length) ts (by have:=hI.ht;rw [List.length_drop];omega)
    have hml3:(s.parts++mkParts ((pieces inn).drop s.parts.length) ts).length=i:=by rw [List.length_append,hml2];exact hI.ht
    have hma:=mkParts_app ((pieces inn).drop s.parts.length) ts (pieceOut mm ((pieces inn).getD i default) ((inn.drop d).take ((pieces inn).getD i default).size)).2 (by have:=hI.ht;rw [List.length_drop];omega)
    have hgq:((pieces inn).drop s.parts.length).getD ts.length default=(pieces inn).getD i default:=by
      simp only [List.getD_eq_getElem?_getD,List.getElem?_drop,hI.ht]
    rw [hgq] at hma
    have hht:=hI.ht
    simp only [turn,cond_true] at hst2
    have hmml:=hI.ml
    obtain ⟨q,hq⟩:∃ q,(pieces inn).getD i default=q:=⟨_,rfl⟩
    rw [hq] at hst1 hst2 hma
    simp only [eq_true h,go_sem]
    refine effG (by omega) ?_
    simp only [go_sem,hq]
    with_reducible repeat' (first|rw [i64w (by omega)];try simp only [go_sem,hq]|refine br ?_ ?_<;>intro h e<;>(try simp only [e,go_sem,hq])<;>clear e|refine sd ?_<;>try simp only [go_sem,hq]|fail)
    rw [drop_take_i]
    refine callU (c203 mm q.size q.named q.e.a q.e.p ((inn.drop d).take q.size) hI.hp (by omega)) [5000] [] 89 1 (by simp only [go_sem];first|done|simp) (by simp only [go_sem];first|done|simp) (by simp) (by simp) (by rintro _ _ ⟨rfl,rfl⟩;simp) (by intro i hi;obtain rfl:i=0:=(by omega);simp only [go_sem]) ?_
    rintro _ _ ⟨rfl,rfl⟩
    simp only [go_sem,hq]
    with_reducible repeat' (first|rw [i64w (by omega)];try simp only [go_sem,hq]|refine br ?_ ?_<;>intro h e<;>(try simp only [e,go_sem,hq])<;>clear e|refine sd ?_<;>try simp only [go_sem,hq]|fail)
    refine ⟨((pieceOut mm q ((inn.drop d).take q.size)).1,ts++[(pieceOut mm q ((inn.drop d).take q.size)).2],i+1,d+q.size),by simp only;omega,hst2,leN [(5000,108900),(1060,1109)] ?_ ?_ (by simp [getN]) (by simp only [go_sem])⟩
    · simp only [go_sem];simp
    · simp only [go_sem,hma];simp [Part.row]
  · simp only [eq_false h,go_sem]
    have:i=(pieces inn).length:=by omega
    subst this
    with_reducible repeat' (first|refine br ?_ ?_<;>intro h e<;>(try simp only [e,go_sem])<;>clear e|rw [i64w (by omega)]|refine sd ?_<;>try simp only [go_sem]|fail)
    have hfin:=hfin mm ts d hI
    refine retN (.tup [.own 1 mm.length,.agg [.str inn,.sl 2 ((s.parts++mkParts ((pieces inn).drop s.parts.length) ts).map Part.row)],.bool true]) [.dead,.arr 64 3 (mm.map Pair.row)] [(1,5000)] ?_ (.inr ⟨by rw [hfin],by rw [hfin],by rw [hfin]⟩) ?_ (by simp [argH,getN]) (by simp only [go_sem])
    · simp only [go_sem]
      have:=hI.ht
      have:=mkParts_len2 ((pieces inn).drop s.parts.length) ts (by rw [List.length_drop];omega)
      first|done|(simp;omega)
    · simp only [go_sem]
def ic194:IC:=sR [oP 3 (.box 44 (.t 0)),oP 4 (.box 44 (.t 1)),oP 5 (.box 54 (.t 2)),oP 6 (.alloc 54 [i0,i0,i0,i0,i0,i0,s0]),oP 7 (.mv (.c (.bool false)))] (sR [lA 10 2 4,fD 11 5 5,lD 12 1 11,oP 13 (.call 205 [.t 10,.t 12]),mV 8 13] (sR [lA 14 2 4,fD 15 5 5,lD 16 1 15,fD 17 6 5,lD 18 1 17,oP 19 (.lens (.t 18)),bN 20 .add 16 19,fD 21 0 4,lD 22 1 21,oP 23 (.lens (.t 22)),oP 24 (.mn (.t 20) (.t 23)),oP 25 (.call 205 [.t 14,.t 24]),mV 9 25] (.seq (sR [fD 26 0 4,lD 27 1 26,oP 28 (.lens (.t 27)),fD 29 0 3,lD 30 1 29,oP 31 (.lens (.t 30)),bN 32 .gtr 28 31] (.cond (.t 32) (.reg [lA 33 2 4,oP 34 (.call 191 [.t 33]),oP 35 (.lens (.t 34)),mV 9 35]) .skip)) (.seq (sR [mV 36 8,mV 37 9,bN 38 .geq 36 37] (.cond (.t 38) (sR [oP 39 (.build [i0,i0,i0,i0,i0,i0,s0] []),nP (.sto 7 (.t 6) (.t 39)),oP 7 (.mv (.c (.bool false)))] .ret) .skip)) (sR [mV 40 8,fD 41 5 5,nP (.sto 1 (.t 41) (.t 40))] (sR [lA 42 2 4,oP 43 (.call 191 [.t 42]),mV 44 8,mV 45 9,oP 46 (.sls (.t 43) (some (.t 44)) (some (.t 45))),fD 47 6 5,nP (.sto 1 (.t 47) (.t 46))] (.seq (.drw [0,0,2,6,14,1,63] [(0,lA 48 7 5),(1,fD 49 6 5),(2,lD 50 1 49),(3,oP 51 (.lens (.t 50))),(4,oP 52 (.bin .leq (.t 51) (.c (.int .i64 40)))),(5,nP (.sto 7 (.t 6) (.t 48))),(6,mV 7 52)]) .ret)))))))
theorem dg194:Dg Tryz.prog 194 Tryz.f194 ic194 [(.cell 6 7 true),(.t 7)]:=⟨Tryz.func194,by kernel_rfl,by kernel_rfl⟩
theorem c194 (was is:Strm) (p:Pk) (h:StrB is) (hw:was.inn.length≤2000000) (hp : -10000≤p.at_∧p.at_≤9000) (ht:p.text.length≤1000) :
    FnR Tryz.prog G 194 [.agg [.str was.inn,.sl 2 (was.parts.map Part.row)],.agg [.str is.inn,.sl 2 (is.parts.map Part.row)],.agg [.int .i64 p.kind,.int .i64 p.frm.a,.int .i64 p.frm.p,.int .i64 p.to.a,.int .i64 p.to.p,.int .i64 p.at_,.str p.text]]
      (.tup [.agg (Pk.row (sendR was is p).1),.bool (sendR was is p).2]):=by
  refine mF dg194 Tryz.ntmps194 ?_
  have hso:=sOut_len h
  have h1:=forP_le (l:=is.parts) p.at_
  have h2:=toR_le was is p
  have hil:=h.1
  have f1:=c205 is p.at_ h (by omega)
  have f2:=c205 is (min (p.at_+p.text.length) is.inn.length) h (by omega)
  have f3:=c191 is h
  have e1:∀ a b,forP is.parts p.at_=a→toR was is p=b→sendR was is p=if a≥b then (.zero,false)
      else ({ p with at_:=a,text:=((sOut is).take b.toNat).drop a.toNat },decide ((((sOut is).take b.toNat).drop a.toNat).length≤40)):=fun a b ha hb=>by subst ha;subst hb;rfl
  simp only [ic194,go_sem]
  generalize hfr:forP is.parts p.at_=fr at *
  by_cases hl:was.inn.length<is.inn.length
  · have hto:toR was is p=(sOut is).length:=by simp [toR,hl]
    have e1:=e1 _ _ rfl hto
    rw [hto] at h2
    generalize hfr2:forP is.parts (min (p.at_+p.text.length) is.inn.length)=fr2 at *
    with_reducible repeat' (first|refine br ?_ ?_<;>intro h e<;>(try simp only [e,go_sem])<;>clear e|rw [i64w (by omega)]|refine sd ?_<;>try simp only [go_sem]|(first|refine cr (f1 ..) ?_|refine cr (f2 ..) ?_|refine cr (f3 ..) ?_)<;>try simp only [go_sem]|fail)
    all_goals first
      | (exfalso;omega)
      | (rw [e1,if_pos (by omega)];simp [Pk.zero,E.zero];done)
      | (rw [e1,if_neg (by omega)];simp;done)
      | (rw [e1,if_neg (by omega)];simp;omega)
  · have hto:toR was is p=forP is.parts (min (p.at_+p.text.length) is.inn.length):=by simp [toR,hl]
    have e1:=e1 _ _ rfl hto
    rw [hto] at h2
    generalize hfr2:forP is.parts (min (p.at_+p.text.length) is.inn.length)=fr2 at *
    with_reducible repeat' (first|refine br ?_ ?_<;>intro h e<;>(try simp only [e,go_sem])<;>clear e|rw [i64w (by omega)]|refine sd ?_<;>try simp only [go_sem]|(first|refine cr (f1 ..) ?_|refine cr (f2 ..) ?_|refine cr (f3 ..) ?_)<;>try simp only [go_sem]|fail)
    all_goals first
      | (exfalso;omega)
      | (rw [e1,if_pos (by omega)];simp [Pk.zero,E.zero];done)
      | (rw [e1,if_neg (by omega)];simp;done)
      | (rw [e1,if_neg (by omega)];simp;omega)
def z0A (c:Nat):Hs→V
  | .arr _ sz _=>.sl sz []
  | _=>.own c 0
theorem z0V_own (h:Nat→Hs) (c:Nat):z0V h (.own c 0)=z0A c (h c):=by cases hh:h c<;>simp [z0V,z0A,hh]
theorem z0A_arr (c ty sz:Nat) (rows:List (List V)):z0A c (.arr ty sz rows)=.sl sz []:=of_eq_true (eq_self _)
theorem z0V_int (h:Nat→Hs) (k n):z0V h (.int k n)=.int k n:=of_eq_true (eq_self _)
theorem z0V_str (h:Nat→Hs) (s):z0V h (.str s)=.str s:=of_eq_true (eq_self _)
theorem z0N_own (c:Nat):z0N (.own c 0)=[c]:=of_eq_true (eq_self _)
theorem z0N_int (k n):z0N (.int k n)=[]:=of_eq_true (eq_self _)
theorem z0N_str (s):z0N (.str s)=[]:=of_eq_true (eq_self _)
theorem ixI_some {o:Option Nat} (h:0≤ixI o):∃ k,o=some k:=by
  cases o with
  | none=>simp [ixI] at h
  | some k=>exact ⟨k,rfl⟩
theorem ixI_none {o:Option Nat} (h:ixI o<0):o=none:=ixI_lt.1 h
def openA (d:Door) (i o:E) (r:V) (out:List Hs):Prop :=
  r=.tup [.agg [.own 0 (openR d i o).1.map.length,.own 1 (openR d i o).1.flows.length],.int .i64 (openR d i o).2.1,.bool (openR d i o).2.2]∧out=[.arr 64 3 ((openR d i o).1.map.map Pair.row),.arr 46 8 ((openR d i o).1.flows.map Flw.row)]
def ic190:IC:=sR [oP 3 (.box 30 (.t 0)),oP 4 (.box 39 (.t 1)),oP 5 (.box 39 (.t 2)),oP 6 (.alloc 30 [.nils,.nils]),oP 7 (.mv (.c i0)),oP 8 (.mv (.c (.bool false)))] (sR [fD 13 1 3,lD 14 1 13,lA 15 2 4,lA 16 2 5,oP 17 (.call 110 [.t 14,.t 15,.t 16]),mV 9 17] (.seq (sR [mV 18 9,oP 19 (.bin .geq (.t 18) (.c i0))] (.cond (.t 19) (sR [lA 20 2 3,mV 21 9,nP (.sto 2 (.t 6) (.t 20)),mV 7 21,oP 8 (.mv (.c (.bool true)))] .ret) .skip)) (sR [fD 23 0 3,lD 24 1 23,lA 25 2 4,oP 26 (.call 145 [.t 24,.t 25]),mV 22 26,eX 27 22 0,eX 28 22 1,eX 29 22 2,mV 10 27,mV 11 28,mV 12 29] (.seq (sR [mV 30 12,oP 31 (.un .not (.t 30)),mV 32 31,⟨some 33,some (32,false),.fad 1 (.t 3)⟩,⟨some 34,some (32,false),.ld 1 false (.t 33)⟩,⟨some 35,some (32,false),.len (.t 34)⟩,⟨some 36,some (32,false),.bin .geq (.t 35) (.c (.int .i64 4))⟩,oP 37 (.pick (.t 32) (.c (.bool true)) (.t 36))] (.cond (.t 37) (sR [lA 38 2 3,nP (.sto 2 (.t 6) (.t 38)),oP 7 (.mv (.c i0)),oP 8 (.mv (.c (.bool false)))] .ret) .skip)) (sR [mV 39 10,fD 40 0 3,nP (.sto 1 (.t 40) (.t 39))] (sR [fD 41 1 3,lD 42 1 41,lA 43 2 4,lA 44 2 5,oP 45 (.bsl 125 2 []),oP 46 (.build [s0,.nils] [(1,(1,.t 45))]),oP 47 (.bsl 125 2 []),oP 48 (.build [s0,.nils] [(1,(1,.t 47))]),oP 49 (.build [i0,i0,i0,i0,s0,.nils,s0,.nils] [(0,(2,.t 43)),(2,(2,.t 44)),(4,(2,.t 46)),(6,(2,.t 48))]),oP 50 (.bsl 46 8 [.t 49]),oP 51 (.app 46 8 (.t 42) (.t 50)),fD 52 1 3,nP (.sto 1 (.t 52) (.t 51))] (.seq (.drw [0,0,2,6,14,1,63,127] [(0,lA 53 2 3),(1,fD 54 1 3),(2,lD 55 1 54),(3,oP 56 (.len (.t 55))),(4,oP 57 (.bin .sub (.t 56) (.c (.int .i64 1)))),(5,nP (.sto 2 (.t 6) (.t 53))),(6,mV 7 57),(7,oP 8 (.mv (.c (.bool true))))]) .ret)))))))
theorem dg190:Dg Tryz.prog 190 Tryz.f190 ic190 [(.cell 6 2 true),(.t 7),(.t 8)]:=⟨Tryz.func190,by kernel_rfl,by kernel_rfl⟩
theorem c190 (d:Door) (i o:E) (hm:mapOk d.map=true) (hf:d.flows.length≤3):FnP Tryz.prog G 190 0 [.arr 64 3 (d.map.map Pair.row),.arr 46 8 (d.flows.map Flw.row)]
    [.agg [.own 0 d.map.length,.own 1 d.flows.length],.agg [.int .i64 i.a,.int .i64 i.p],.agg [.int .i64 o.a,.int .i64 o.p]] (openA d i o):=by
  refine mP dg190 Tryz.ntmps190 ⟨_,_,rfl,rfl⟩ ?_
  obtain ⟨hp,hml⟩:=mapOk_ports hm
  have keep:∀ l mm k ok,openR d i o=(d,k,ok)→getL l 6=.pv 1006 0→getL l 7=.int .i64 (k:Nat)→getL l 8=.bool ok→getH mm 1006=.var 30 [.own 0 d.map.length,.own 1 d.flows.length]→getH mm 0=.arr 64 3 (d.map.map Pair.row)→getH mm 1=.arr 46 8 (d.flows.map Flw.row) →
      retQ [.cell 6 2 true,.t 7,.t 8] 0 (openA d i o) .ret ⟨getL l,getH mm⟩:=fun l mm k ok h1 h2 h3 h4 h5 h6 h7=>by
    refine retN (.tup [.agg [.own 0 d.map.length,.own 1 d.flows.length],.int .i64 (k:Nat),.bool ok]) [.arr 64 3 (d.map.map Pair.row),.arr 46 8 (d.flows.map Flw.row)] [] ?_ ⟨by rw [h1],by rw [h1]⟩ ?_ (by simp [argH,getN]) (by simp only [go_sem])
    · simp only [go_sem,h2,h3,h4,h5]
    · simp only [go_sem,h6,h7]
  simp only [ic190,go_sem]
  refine callF (c110 d.flows i o (by omega)) [1] false (by simp only [go_sem];first|done|simp [E.row,Pc.row,Pair.row,Part.row,Flw.row,Pk.row,Conv.row]) (by simp only [List.mem_singleton];rintro c rfl;rfl) rfl (.inr rfl) ?_
  simp only [go_sem]
  with_reducible repeat' (first|refine br ?_ ?_<;>intro h e<;>(try simp only [e,go_sem])<;>clear e|rw [i64w (by omega)]|refine sd ?_<;>try simp only [go_sem]|fail)
  · obtain ⟨k,hk⟩:=ixI_some h
    rw [hk]
    exact keep _ _ k true (openF_has hk) (by simp only [go_sem]) (by simp only [go_sem];rfl) (by simp only [go_sem]) (by simp only [go_sem]) (by simp only [go_sem]) (by simp only [go_sem])
  have hno:=ixI_none (by omega:ixI (flowIx d.flows i o)<0)
  refine callN (c145 d.map i.a i.p hp (by omega)) [0] [] true 26 2 (by simp only [go_sem];first|done|simp) (by simp only [go_sem];first|done|simp) (by simp) (by simp) (by simp) ?_ ?_ ?_
  · rintro res out (⟨_,rfl,rfl⟩|⟨rfl,rfl,_⟩)
    · exact ⟨by simp,by simp,.inl rfl,fun i hi=>by obtain rfl:i=0:=(by omega);simp [chH,stepOk]⟩
    · exact ⟨by simp,by simp,.inl rfl,fun i hi=>by obtain rfl:i=0:=(by omega);simp [chH,stepOk]⟩
  · intro i hi
    have:i=0∨i=1:=by omega
    rcases this with rfl|rfl<;>simp only [go_sem]
  · rintro res out (⟨h1,rfl,rfl⟩|⟨rfl,rfl,h3,_⟩)
    · simp only [go_sem]
      cases hok:(mOut d.map i).2.2<;>simp only [go_sem]
      · with_reducible repeat' (first|refine br ?_ ?_<;>intro h e<;>(try simp only [e,go_sem])<;>clear e|rw [i64w (by omega)]|refine sd ?_<;>try simp only [go_sem]|fail)
        exact keep _ _ 0 false (openF_no hno hok) (by simp only [go_sem]) (by simp only [go_sem];first|done|rfl) (by simp only [go_sem]) (by simp only [go_sem]) (by simp only [go_sem]) (by simp only [go_sem])
      · have hn:=openF_new hno hok (by omega)
        with_reducible repeat' (first|refine br ?_ ?_<;>intro h e<;>(try simp only [e,go_sem])<;>clear e|rw [i64w (by omega)]|refine sd ?_<;>try simp only [go_sem]|fail)
        · omega
        simp only [Bool.true_and,Bool.false_and,z0V_own,z0A_arr,z0V_int,z0V_str,z0N_own,z0N_int,z0N_str,List.flatMap_cons,List.flatMap_nil,go_sem]
        with_reducible repeat' (first|refine br ?_ ?_<;>intro h e<;>(try simp only [e,go_sem])<;>clear e|rw [i64w (by omega)]|refine sd ?_<;>try simp only [go_sem]|fail)
        refine retN (.tup [.agg [.own 0 d.map.length,.own 1 (d.flows.length+1)],.int .i64 (d.flows.length:Nat),.bool true]) [.arr 64 3 (d.map.map Pair.row),.arr 46 8 ((d.flows++[Flw.mk i o .zero .zero]).map Flw.row)] [(1,1051)] ?_ ⟨by rw [hn,h1];simp,by rw [hn,h1]⟩ ?_ (by simp [argH,getN]) (by simp only [go_sem])
        · simp only [go_sem];first|done|omega
        · simp only [go_sem];simp [Flw.row,Strm.zero]
    · have hn:=openF_new hno h3 (by omega)
      simp only [go_sem,h3]
      with_reducible repeat' (first|refine br ?_ ?_<;>intro h e<;>(try simp only [e,go_sem])<;>clear e|rw [i64w (by omega)]|refine sd ?_<;>try simp only [go_sem]|fail)
      · omega
      simp only [Bool.true_and,Bool.false_and,z0V_own,z0A_arr,z0V_int,z0V_str,z0N_own,z0N_int,z0N_str,List.flatMap_cons,List.flatMap_nil,go_sem]
      with_reducible repeat' (first|refine br ?_ ?_<;>intro h e<;>(try simp only [e,go_sem])<;>clear e|rw [i64w (by omega)]|refine sd ?_<;>try simp only [go_sem]|fail)
      refine retN (.tup [.agg [.own 0 (mOut d.map i).1.length,.own 1 (d.flows.length+1)],.int .i64 (d.flows.length:Nat),.bool true]) [.arr 64 3 ((mOut d.map i).1.map Pair.row),.arr 46 8 ((d.flows++[Flw.mk i o .zero .zero]).map Flw.row)] [(0,102601),(1,1051)] ?_ ⟨by rw [hn];simp,by rw [hn]⟩ ?_ (by simp [argH,getN]) (by simp only [go_sem])
      · simp only [go_sem];first|done|omega
      · simp only [go_sem];simp [Flw.row,Strm.zero]
def doorA (x:Door × Option Pk) (r:V) (out:List Hs):Prop :=
  r=.tup [.agg [.own 0 x.1.map.length,.own 1 x.1.flows.length],.agg (Pk.row (x.2.getD .zero)),.bool x.2.isSome]∧out=[.arr 64 3 (x.1.map.map Pair.row),.arr 46 8 (x.1.flows.map Flw.row)]
theorem doorRet {x:Door × Option Pk} {l:List (Nat × V)} {mm:List (Nat × Hs)} {d:Door} {q:Option Pk} (n0 n1:Nat) (hx:x=(d,q)) (h4:getL l 4=.pv 1004 0) (h5:getL l 5=.pv 1005 0) (h6:getL l 6=.bool q.isSome)
    (m4:getH mm 1004=.var 30 [.own n0 d.map.length,.own n1 d.flows.length]) (m5:getH mm 1005=.var 54 (Pk.row (q.getD .zero))) (m0:getH mm n0=.arr 64 3 (d.map.map Pair.row)) (m1:getH mm n1=.arr 46 8 (d.flows.map Flw.row)) (hne:n0≠n1) :
    retQ [.cell 4 2 true,.cell 5 7 true,.t 6] 0 (doorA x) .ret ⟨getL l,getH mm⟩:=by
  subst hx
  refine retN (.tup [.agg [.own 0 d.map.length,.own 1 d.flows.length],.agg (Pk.row (q.getD .zero)),.bool q.isSome]) [.arr 64 3 (d.map.map Pair.row),.arr 46 8 (d.flows.map Flw.row)] [(0,n0),(1,n1)] ?_ ⟨rfl,rfl⟩ ?_ (by simp [argH,getN,hne]) (by simp only [go_sem])
  · simp only [go_sem,h4,h5,h6,m4,m5]
  · simp only [go_sem,m0,m1]
def ic178:IC:=sR [oP 2 (.box 30 (.t 0)),oP 3 (.box 54 (.t 1)),oP 4 (.alloc 30 [.nils,.nils]),oP 5 (.alloc 54 [i0,i0,i0,i0,i0,i0,s0]),oP 6 (.mv (.c (.bool false)))] (sR [lA 18 2 2,fD 19 1 3,lA 20 2 19,fD 21 3 3,lA 22 2 21,oP 23 (.call 190 [.t 18,.t 20,.t 22]),mV 17 23,eX 24 17 0,eX 25 17 1,eX 26 17 2,nP (.sto 2 (.t 2) (.t 24)),mV 7 25,mV 8 26] (.seq (sR [mV 27 8,oP 28 (.un .not (.t 27))] (.cond (.t 28) (sR [lA 29 2 2,oP 30 (.build [i0,i0,i0,i0,i0,i0,s0] []),nP (.sto 2 (.t 4) (.t 29)),nP (.sto 7 (.t 5) (.t 30)),oP 6 (.mv (.c (.bool false)))] .ret) .skip)) (sR [fD 32 0 2,lD 33 1 32,fD 34 1 3,lA 35 2 34,oP 36 (.call 145 [.t 33,.t 35]),mV 31 36,eX 37 31 0,eX 38 31 1,eX 39 31 2,mV 9 37,mV 10 38,mV 11 39] (sR [mV 40 10,oP 41 (.build [i0,i0] [(0,(1,.c (.int .i64 9))),(1,(1,.t 40))]),oP 12 (.alloc 39 [i0,i0]),nP (.sto 2 (.t 12) (.t 41))] (sR [fD 42 1 2,lD 43 1 42,mV 44 7,oP 45 (.iad 8 (.t 43) (.t 44)),lA 46 8 45,oP 13 (.alloc 46 [i0,i0,i0,i0,s0,.nils,s0,.nils]),nP (.sto 8 (.t 13) (.t 46))] (.seq (sR [fD 47 0 3,lD 48 1 47,oP 49 (.bin .eql (.t 48) (.c (.int .i64 2)))] (.cond (.t 49) (.seq (.seq (.drw [0,1,0,4,12,28,63] [(0,fD 50 5 3),(1,lD 51 1 50),(2,fD 52 6 13),(3,lA 53 2 52),(4,oP 54 (.call 191 [.t 53])),(5,oP 55 (.lens (.t 54))),(6,bN 56 .gtr 51 55)]) (.cond (.t 56) (sR [lA 57 2 2,oP 58 (.build [i0,i0,i0,i0,i0,i0,s0] []),nP (.sto 2 (.t 4) (.t 57)),nP (.sto 7 (.t 5) (.t 58)),oP 6 (.mv (.c (.bool false)))] .ret) .skip)) (.seq (.drw [0,0,0,4,0,16,0,64,240,510,497,2047,4095] [(0,lA 59 2 2),(1,lA 60 2 12),(2,fD 61 3 3),(3,lA 62 2 61),(4,fD 63 6 13),(5,lA 64 2 63),(6,fD 65 5 3),(7,lD 66 1 65),(8,oP 67 (.call 192 [.t 64,.t 66])),(9,oP 68 (.build [i0,i0,i0,i0,i0,i0,s0] [(0,(1,.c (.int .i64 2))),(1,(2,.t 60)),(3,(2,.t 62)),(5,(1,.t 67))])),(10,nP (.sto 2 (.t 4) (.t 59))),(11,nP (.sto 7 (.t 5) (.t 68))),(12,oP 6 (.mv (.c (.bool true))))]) .ret)) .skip)) (sR [fD 70 0 2,lD 71 1 70,fD 72 4 13,lA 73 2 72,fD 74 5 3,lD 75 1 74,fD 76 6 3,lD 77 1 76,oP 78 (.call 193 [.t 71,.t 73,.t 75,.t 77,.c (.bool true)]),mV 69 78,eX 79 69 0,eX 80 69 1,eX 81 69 2,oP 15 (.alloc 44 [s0,.nils]),mV 14 79,nP (.sto 2 (.t 15) (.t 80)),mV 8 81] (.seq (sR [mV 82 8,oP 83 (.un .not (.t 82))] (.cond (.t 83) (sR [lA 84 2 2,oP 85 (.build [i0,i0,i0,i0,i0,i0,s0] []),nP (.sto 2 (.t 4) (.t 84)),nP (.sto 7 (.t 5) (.t 85)),oP 6 (.mv (.c (.bool false)))] .ret) .skip)) (sR [fD 87 4 13,lA 88 2 87,lA 89 2 15,lA 90 7 3,oP 91 (.call 194 [.t 88,.t 89,.t 90]),mV 86 91,eX 92 86 0,eX 93 86 1,oP 16 (.alloc 54 [i0,i0,i0,i0,i0,i0,s0]),nP (.sto 7 (.t 16) (.t 92)),mV 8 93] (sR [lA 94 2 15,fD 95 4 13,nP (.sto 2 (.t 95) (.t 94))] (sR [mV 96 14,fD 97 0 2,nP (.sto 1 (.t 97) (.t 96))] (sR [fD 98 1 2,lD 99 1 98,mV 100 7,lA 101 8 13,oP 102 (.iad 8 (.t 99) (.t 100)),nP (.sto 8 (.t 102) (.t 101))] (.seq (sR [mV 103 8,oP 104 (.un .not (.t 103))] (.cond (.t 104) (sR [lA 105 2 2,oP 106 (.build [i0,i0,i0,i0,i0,i0,s0] []),nP (.sto 2 (.t 4) (.t 105)),nP (.sto 7 (.t 5) (.t 106)),oP 6 (.mv (.c (.bool false)))] .ret) .skip)) (sR [lA 107 2 12,fD 108 1 16,nP (.sto 2 (.t 108) (.t 107))] (.seq (.drw [0,0,1,7,15] [(0,lA 109 2 2),(1,lA 110 7 16),(2,nP (.sto 2 (.t 4) (.t 109))),(3,nP (.sto 7 (.t 5) (.t 110))),(4,oP 6 (.mv (.c (.bool true))))]) .ret)))))))))))))))
theorem dg178:Dg Tryz.prog 178 Tryz.f178 ic178 [(.cell 4 2 true),(.cell 5 7 true),(.t 6)]:=⟨Tryz.func178,by kernel_rfl,by kernel_rfl⟩
theorem c178 (d:Door) (p:Pk) (hd:doorOk d=true) (hl:d.flows.length≤3) (hp:PkP p) (hi:p.frm.inside=true) (ho:p.to.outside=true):FnP Tryz.prog G 178 0 [.arr 64 3 (d.map.map Pair.row),.arr 46 8 (d.flows.map Flw.row)]
    [.agg [.own 0 d.map.length,.own 1 d.flows.length],.agg [.int .i64 p.kind,.int .i64 p.frm.a,.int .i64 p.frm.p,.int .i64 p.to.a,.int .i64 p.to.p,.int .i64 p.at_,.str p.text]] (doorA (dOut d p)):=by
  refine mP dg178 Tryz.ntmps178 ⟨_,_,rfl,rfl⟩ ?_
  have hm:=(doorOk_iff.1 hd).1
  have hyes:=fun ok=>openR_ok hd hi ho ok
  have hout:=fun ok=>dOut_yes (p:=p) ok (hyes ok).kl
  have hno:=fun ok=>dOut_no (d:=d) (p:=p) ok
  have hno':=fun ok=>openR_no (d:=d) (i:=p.frm) (o:=p.to) ok
  simp only [ic178,go_sem]
  refine callU (c190 d p.frm p.to hm hl) [0,1] [] 23 2 (by simp only [go_sem];first|done|simp) (by simp only [go_sem];first|done|simp) (by simp) (by simp) (by rintro _ _ ⟨rfl,rfl⟩;simp) (by intro i hi;rcases (show i=0∨i=1 by omega) with rfl|rfl<;>simp only [go_sem]) ?_
  rintro _ _ ⟨rfl,rfl⟩
  simp only [go_sem]
  generalize hx:openR d p.frm p.to=x at *
  obtain ⟨x,k,ok⟩:=x
  simp only at hyes hout hno hno'
  cases ok<;>simp only [go_sem]
  · refine doorRet 102300 102301 (hno rfl) ?_ ?_ ?_ ?_ ?_ ?_ ?_ (by decide)<;>simp only [go_sem,hno' rfl,Option.isSome_none,Option.getD_none,Pk.zero,E.zero]
  obtain ⟨x1,x2,x3,x4,x5,x6,x7,x8⟩:=hyes rfl
  rw [hout rfl]
  obtain ⟨xp,xl⟩:=mapOk_ports x1
  have hmo:=mOut_found (fun p h=>(xp p h).1) x2
  clear hyes hout hno hno'
  refine callN (c145 x.map p.frm.a p.frm.p xp (by omega)) [102300] [] true 36 2 (by simp only [go_sem];first|done|simp) (by simp only [go_sem];first|done|simp) (by simp) (by simp) (by simp) ?_ ?_ ?_
  · rintro res out (⟨_,rfl,rfl⟩|⟨rfl,rfl,_⟩)
    · exact ⟨by simp,by simp,.inl rfl,fun i hi=>by obtain rfl:i=0:=(by omega);simp [chH,stepOk]⟩
    · exact ⟨by simp,by simp,.inl rfl,fun i hi=>by obtain rfl:i=0:=(by omega);simp [chH,stepOk]⟩
  · intro i hi
    have:i=0∨i=1:=by omega
    rcases this with rfl|rfl<;>simp only [go_sem]
  intro res out hoA
  obtain ⟨_,rfl,rfl⟩:=hoA.resolve_right (fun h3=>h3.2.2.2 (by rw [hmo]))
  simp only [go_sem,hmo]
  have hg:x.flows.getD k default=Flw.at x k:=rfl
  rw [hg] at x6 x7
  have s1:=strmOk_B x6
  have s2:=strmOk_B x7
  have so:=sOut_len s2
  have hpa:=hp.at_
  have hpl:=hp.len
  have f1:=c191 (Flw.at x k).down s2
  have f2:=c192 (Flw.at x k).down p.at_ s2 (by omega)
  generalize hpo:portOf x.map p.frm=po at *
  with_reducible repeat' (first|refine br ?_ ?_<;>intro h e<;>(try simp only [e,go_sem,getD_mp x4,hg])<;>clear e|rw [i64w (by omega)]|refine sd ?_<;>try simp only [go_sem,getD_mp x4,hg]|(first|refine cr (f1 ..) ?_|refine cr (f2 ..) ?_)<;>try simp only [go_sem,getD_mp x4,hg]|fail)
  · have:outK x k p=(x,none):=by
      simp only [outK];rw [if_pos (by assumption),if_pos (by omega)]
    refine doorRet 102300 102301 this ?_ ?_ ?_ ?_ ?_ ?_ ?_ (by decide)<;>simp only [go_sem,Option.isSome_none,Option.getD_none,Pk.zero,E.zero]
  · have:outK x k p=(x,some ⟨2,⟨9,po⟩,p.to,backP (Flw.at x k).down.parts p.at_,[]⟩):=by
      simp only [outK,hpo];rw [if_pos (by assumption),if_neg (by omega)]
    refine doorRet 102300 102301 this ?_ ?_ ?_ ?_ ?_ ?_ ?_ (by decide)<;>simp only [go_sem,Option.isSome_some,Option.getD_some]
  have hpo2:PutOk x.map (Flw.at x k).up p.at_ p.text:=⟨x1,x6,hpa,hpl⟩
  refine callN (c193T x.map (Flw.at x k).up p.at_ p.text hpo2) [102300] [] true 78 2 (by simp only [go_sem];first|done|simp) (by simp only [go_sem];first|done|simp) (by simp) (by simp) (by simp) ?_ ?_ ?_
  · rintro res out (⟨_,rfl,rfl⟩|⟨_,rfl,rfl⟩)
    · exact ⟨by simp,by simp,.inl rfl,fun i hi=>by obtain rfl:i=0:=(by omega);simp [chH,stepOk]⟩
    · exact ⟨by simp,by simp,.inl rfl,fun i hi=>by obtain rfl:i=0:=(by omega);simp [chH,stepOk]⟩
  · intro i hi
    have:i=0∨i=1:=by omega
    rcases this with rfl|rfl<;>simp only [go_sem]
  have htx:=hp.tx.resolve_left (by assumption)
  have hpk:=put_ok (m:=x.map) (s:=(Flw.at x k).up) (n:=p.at_) (t:=p.text) (out:=true) x1 x6 htx hpa.1
  have hko:outK x k p=if (put x.map (Flw.at x k).up p.at_ p.text true).2.2=false then (x,none)
      else (⟨(put x.map (Flw.at x k).up p.at_ p.text true).1,x.flows.set k { Flw.at x k with up:=(put x.map (Flw.at x k).up p.at_ p.text true).2.1 }⟩,
        (sendOn (Flw.at x k).up (put x.map (Flw.at x k).up p.at_ p.text true).2.1 p).map fun q=>{ q with frm:=⟨9,po⟩ }):=by
    simp only [outK,hpo];rw [if_neg (by assumption)]
  rintro res out (⟨h,rfl,rfl⟩|⟨h,rfl,rfl⟩)
  · generalize hP:put x.map (Flw.at x k).up p.at_ p.text true=P at *
    obtain ⟨m',s',ok'⟩:=P
    simp only at h hpk hko
    subst h
    cases ok'<;>simp only [go_sem]
    · rw [if_pos rfl] at hko
      with_reducible repeat' (first|refine br ?_ ?_<;>intro h e<;>(try simp only [e,go_sem])<;>clear e|rw [i64w (by omega)]|refine sd ?_<;>try simp only [go_sem]|fail)
      refine doorRet 102300 102301 hko ?_ ?_ ?_ ?_ ?_ ?_ ?_ (by decide)<;>simp only [go_sem,Option.isSome_none,Option.getD_none,Pk.zero,E.zero]
    rw [if_neg (by simp),sendR_on] at hko
    have f3:=c194 (Flw.at x k).up s' p (strmOk_B hpk.2) (by have:=s1.1;omega) (by omega) (by omega)
    generalize hS:sendR (Flw.at x k).up s' p=S at *
    obtain ⟨q,okq⟩:=S
    simp only at hko
    cases okq
    all_goals
      with_reducible repeat' (first|refine br ?_ ?_<;>intro h e<;>(try simp only [e,go_sem])<;>clear e|rw [i64w (by omega)]|refine sd ?_<;>try simp only [go_sem]|(first|refine cr (f3 ..) ?_)<;>try simp only [go_sem]|fail)
    · refine doorRet (d:=⟨x.map,x.flows.set k { Flw.at x k with up:=s' }⟩) (q:=none) 102300 102301 (by rw [hko];rfl) ?_ ?_ ?_ ?_ ?_ ?_ ?_ (by decide)<;>simp only [go_sem,Option.isSome_none,Option.getD_none,Pk.zero,E.zero,List.map_set,List.length_set,getD_mp x4,hg]
    · refine doorRet (d:=⟨x.map,x.flows.set k { Flw.at x k with up:=s' }⟩) (q:=some { q with frm:=⟨9,po⟩ }) 102300 102301 (by rw [hko];rfl) ?_ ?_ ?_ ?_ ?_ ?_ ?_ (by decide)<;>simp only [go_sem,Option.isSome_some,Option.getD_some,List.map_set,List.length_set,getD_mp x4,hg]
  · generalize hP:put x.map (Flw.at x k).up p.at_ p.text true=P at *
    obtain ⟨m',s',ok'⟩:=P
    simp only at h hpk hko
    subst h
    simp only [go_sem]
    rw [if_neg (by simp),sendR_on] at hko
    have f3:=c194 (Flw.at x k).up s' p (strmOk_B hpk.2) (by have:=s1.1;omega) (by omega) (by omega)
    generalize hS:sendR (Flw.at x k).up s' p=S at *
    obtain ⟨q,okq⟩:=S
    simp only at hko
    cases okq
    all_goals
      with_reducible repeat' (first|refine br ?_ ?_<;>intro h e<;>(try simp only [e,go_sem])<;>clear e|rw [i64w (by omega)]|refine sd ?_<;>try simp only [go_sem]|(first|refine cr (f3 ..) ?_)<;>try simp only [go_sem]|fail)
    · refine doorRet (d:=⟨m',x.flows.set k { Flw.at x k with up:=s' }⟩) (q:=none) 107801 102301 (by rw [hko];rfl) ?_ ?_ ?_ ?_ ?_ ?_ ?_ (by decide)<;>simp only [go_sem,Option.isSome_none,Option.getD_none,Pk.zero,E.zero,List.map_set,List.length_set,getD_mp x4,hg]
    · refine doorRet (d:=⟨m',x.flows.set k { Flw.at x k with up:=s' }⟩) (q:=some { q with frm:=⟨9,po⟩ }) 107801 102301 (by rw [hko];rfl) ?_ ?_ ?_ ?_ ?_ ?_ ?_ (by decide)<;>simp only [go_sem,Option.isSome_some,Option.getD_some,List.map_set,List.length_set,getD_mp x4,hg]
def ic179:IC:=sR [oP 2 (.box 30 (.t 0)),oP 3 (.box 54 (.t 1)),oP 4 (.alloc 30 [.nils,.nils]),oP 5 (.alloc 54 [i0,i0,i0,i0,i0,i0,s0]),oP 6 (.mv (.c (.bool false)))] (sR [fD 15 0 2,lD 16 1 15,fD 17 3 3,fD 18 1 17,lD 19 1 18,oP 20 (.call 195 [.t 16,.t 19]),mV 14 20,eX 21 14 0,eX 22 14 1,oP 7 (.alloc 39 [i0,i0]),nP (.sto 2 (.t 7) (.t 21)),mV 8 22] (sR [fD 23 1 2,lD 24 1 23,lA 25 2 7,fD 26 1 3,lA 27 2 26,oP 28 (.call 110 [.t 24,.t 25,.t 27]),mV 9 28] (.seq (sR [mV 29 8,oP 30 (.un .not (.t 29)),mV 31 30,⟨some 32,some (31,false),.mv (.t 9)⟩,⟨some 33,some (31,false),.bin .lss (.t 32) (.c i0)⟩,oP 34 (.pick (.t 31) (.c (.bool true)) (.t 33))] (.cond (.t 34) (sR [lA 35 2 2,oP 36 (.build [i0,i0,i0,i0,i0,i0,s0] []),nP (.sto 2 (.t 4) (.t 35)),nP (.sto 7 (.t 5) (.t 36)),oP 6 (.mv (.c (.bool false)))] .ret) .skip)) (sR [fD 37 1 2,lD 38 1 37,mV 39 9,oP 40 (.iad 8 (.t 38) (.t 39)),lA 41 8 40,oP 10 (.alloc 46 [i0,i0,i0,i0,s0,.nils,s0,.nils]),nP (.sto 8 (.t 10) (.t 41))] (.seq (sR [fD 42 0 3,lD 43 1 42,oP 44 (.bin .eql (.t 43) (.c (.int .i64 2)))] (.cond (.t 44) (.seq (.seq (.drw [0,1,0,4,12,28,63] [(0,fD 45 5 3),(1,lD 46 1 45),(2,fD 47 4 10),(3,lA 48 2 47),(4,oP 49 (.call 191 [.t 48])),(5,oP 50 (.lens (.t 49))),(6,bN 51 .gtr 46 50)]) (.cond (.t 51) (sR [lA 52 2 2,oP 53 (.build [i0,i0,i0,i0,i0,i0,s0] []),nP (.sto 2 (.t 4) (.t 52)),nP (.sto 7 (.t 5) (.t 53)),oP 6 (.mv (.c (.bool false)))] .ret) .skip)) (.seq (.drw [0,0,2,0,0,16,0,64,240,510,497,2047,4095] [(0,lA 54 2 2),(1,fD 55 1 3),(2,lA 56 2 55),(3,lA 57 2 7),(4,fD 58 4 10),(5,lA 59 2 58),(6,fD 60 5 3),(7,lD 61 1 60),(8,oP 62 (.call 192 [.t 59,.t 61])),(9,oP 63 (.build [i0,i0,i0,i0,i0,i0,s0] [(0,(1,.c (.int .i64 2))),(1,(2,.t 56)),(3,(2,.t 57)),(5,(1,.t 62))])),(10,nP (.sto 2 (.t 4) (.t 54))),(11,nP (.sto 7 (.t 5) (.t 63))),(12,oP 6 (.mv (.c (.bool true))))]) .ret)) .skip)) (sR [fD 65 0 2,lD 66 1 65,fD 67 6 10,lA 68 2 67,fD 69 5 3,lD 70 1 69,fD 71 6 3,lD 72 1 71,oP 73 (.call 193 [.t 66,.t 68,.t 70,.t 72,.c (.bool false)]),mV 64 73,eX 74 64 0,eX 75 64 1,eX 76 64 2,oP 12 (.alloc 44 [s0,.nils]),mV 11 74,nP (.sto 2 (.t 12) (.t 75)),mV 8 76] (.seq (sR [mV 77 8,oP 78 (.un .not (.t 77))] (.cond (.t 78) (sR [lA 79 2 2,oP 80 (.build [i0,i0,i0,i0,i0,i0,s0] []),nP (.sto 2 (.t 4) (.t 79)),nP (.sto 7 (.t 5) (.t 80)),oP 6 (.mv (.c (.bool false)))] .ret) .skip)) (sR [fD 82 6 10,lA 83 2 82,lA 84 2 12,lA 85 7 3,oP 86 (.call 194 [.t 83,.t 84,.t 85]),mV 81 86,eX 87 81 0,eX 88 81 1,oP 13 (.alloc 54 [i0,i0,i0,i0,i0,i0,s0]),nP (.sto 7 (.t 13) (.t 87)),mV 8 88] (sR [lA 89 2 12,fD 90 6 10,nP (.sto 2 (.t 90) (.t 89))] (sR [fD 91 1 2,lD 92 1 91,mV 93 9,lA 94 8 10,oP 95 (.iad 8 (.t 92) (.t 93)),nP (.sto 8 (.t 95) (.t 94))] (.seq (sR [mV 96 8,oP 97 (.un .not (.t 96))] (.cond (.t 97) (sR [lA 98 2 2,oP 99 (.build [i0,i0,i0,i0,i0,i0,s0] []),nP (.sto 2 (.t 4) (.t 98)),nP (.sto 7 (.t 5) (.t 99)),oP 6 (.mv (.c (.bool false)))] .ret) .skip)) (sR [lA 100 2 7,fD 101 3 13,nP (.sto 2 (.t 101) (.t 100))] (.seq (.drw [0,0,1,7,15] [(0,lA 102 2 2),(1,lA 103 7 13),(2,nP (.sto 2 (.t 4) (.t 102))),(3,nP (.sto 7 (.t 5) (.t 103))),(4,oP 6 (.mv (.c (.bool true))))]) .ret)))))))))))))
theorem dg179:Dg Tryz.prog 179 Tryz.f179 ic179 [(.cell 4 2 true),(.cell 5 7 true),(.t 6)]:=⟨Tryz.func179,by kernel_rfl,by kernel_rfl⟩
theorem c179 (d:Door) (p:Pk) (hd:doorOk d=true) (hp:PkP p) (hi:p.to.door=true):FnP Tryz.prog G 179 0 [.arr 64 3 (d.map.map Pair.row),.arr 46 8 (d.flows.map Flw.row)]
    [.agg [.own 0 d.map.length,.own 1 d.flows.length],.agg [.int .i64 p.kind,.int .i64 p.frm.a,.int .i64 p.frm.p,.int .i64 p.to.a,.int .i64 p.to.p,.int .i64 p.at_,.str p.text]] (doorA (dIn d p)):=by
  refine mP dg179 Tryz.ntmps179 ⟨_,_,rfl,rfl⟩ ?_
  obtain ⟨hm,hfl,_⟩:=doorOk_iff.1 hd
  have hdr:=E.door_iff.1 hi
  simp only [ic179,go_sem]
  refine callF (c195 d.map p.to.p hm (by omega)) [0] false (by simp only [go_sem];first|done|simp [E.row,Pc.row,Pair.row,Part.row,Flw.row,Pk.row,Conv.row]) (by simp only [List.mem_singleton];rintro c rfl;rfl) rfl (.inr rfl) ?_
  simp only [go_sem]
  cases hin:insideOf d.map p.to.p with
  | none =>
    simp only [go_sem,Option.isSome_none,Option.getD_none,E.zero]
    refine callF (c110 d.flows ⟨0,0⟩ p.frm (by omega)) [1] false (by simp only [go_sem];first|done|simp [E.row,Pc.row,Pair.row,Part.row,Flw.row,Pk.row,Conv.row]) (by simp only [List.mem_singleton];rintro c rfl;rfl) rfl (.inr rfl) ?_
    simp only [go_sem]
    with_reducible repeat' (first|refine br ?_ ?_<;>intro h e<;>(try simp only [e,go_sem])<;>clear e|rw [i64w (by omega)]|refine sd ?_<;>try simp only [go_sem]|fail)
    refine doorRet (q:=none) 0 1 (dIn_no1 hin) ?_ ?_ ?_ ?_ ?_ ?_ ?_ (by decide)<;>simp only [go_sem,Option.isSome_none,Option.getD_none,Pk.zero,E.zero]
  | some i =>
    simp only [go_sem,Option.isSome_some,Option.getD_some]
    refine callF (c110 d.flows i p.frm (by omega)) [1] false (by simp only [go_sem];first|done|simp [E.row,Pc.row,Pair.row,Part.row,Flw.row,Pk.row,Conv.row]) (by simp only [List.mem_singleton];rintro c rfl;rfl) rfl (.inr rfl) ?_
    simp only [go_sem]
    cases hf:flowIx d.flows i p.frm with
    | none =>
      simp only [ixI,go_sem]
      with_reducible repeat' (first|refine br ?_ ?_<;>intro h e<;>(try simp only [e,go_sem])<;>clear e|rw [i64w (by omega)]|refine sd ?_<;>try simp only [go_sem]|fail)
      refine doorRet (q:=none) 0 1 (dIn_no2 hin hf) ?_ ?_ ?_ ?_ ?_ ?_ ?_ (by decide)<;>simp only [go_sem,Option.isSome_none,Option.getD_none,Pk.zero,E.zero]
    | some k =>
      obtain ⟨hk,hke⟩:=dIn_yes hin hf
      rw [hke]
      have hg:d.flows.getD k default=Flw.at d k:=rfl
      have hfk:d.flows[k]?=some (Flw.at d k):=by simp [Flw.at,List.getD,hk]
      obtain ⟨_,_,x6,x7,_⟩:=flow_at hd hfk
      have s1:=strmOk_B x6
      have s2:=strmOk_B x7
      have so:=sOut_len s1
      have hpa:=hp.at_
      have hpl:=hp.len
      have f1:=c191 (Flw.at d k).up s1
      have f2:=c192 (Flw.at d k).up p.at_ s1 (by omega)
      have hlt:¬ ((k:Int)<0):=by omega
      simp only [ixI,go_sem,eq_false hlt]
      with_reducible repeat' (first|refine br ?_ ?_<;>intro h e<;>(try simp only [e,go_sem,getD_mp hk,hg])<;>clear e|rw [i64w (by omega)]|refine sd ?_<;>try simp only [go_sem,getD_mp hk,hg]|(first|refine cr (f1 ..) ?_|refine cr (f2 ..) ?_)<;>try simp only [go_sem,getD_mp hk,hg]|fail)
      · have:inK d k i p=(d,none):=by
          simp only [inK];rw [if_pos (by assumption),if_pos (by omega)]
        refine doorRet (q:=none) 0 1 this ?_ ?_ ?_ ?_ ?_ ?_ ?_ (by decide)<;>simp only [go_sem,Option.isSome_none,Option.getD_none,Pk.zero,E.zero]
      · have:inK d k i p=(d,some ⟨2,p.frm,i,backP (Flw.at d k).up.parts p.at_,[]⟩):=by
          simp only [inK];rw [if_pos (by assumption),if_neg (by omega)]
        refine doorRet 0 1 this ?_ ?_ ?_ ?_ ?_ ?_ ?_ (by decide)<;>simp only [go_sem,Option.isSome_some,Option.getD_some]
      refine callN (c193F d.map (Flw.at d k).down p.at_ p.text ⟨hm,x7,hpa,hpl⟩) [0] [] true 73 1 (by simp only [go_sem];first|done|simp) (by simp only [go_sem];first|done|simp) (by simp) (by simp) (by simp) ?_ ?_ ?_
      · rintro res out ⟨_,rfl,rfl⟩
        exact ⟨by simp,by simp,.inl rfl,fun i hi=>by obtain rfl:i=0:=(by omega);simp [chH,stepOk]⟩
      · intro i hi
        obtain rfl:i=0:=by omega
        simp only [go_sem]
      have htx:=hp.tx.resolve_left (by assumption)
      have hpk:=put_ok (m:=d.map) (s:=(Flw.at d k).down) (n:=p.at_) (t:=p.text) (out:=false) hm x7 htx hpa.1
      have hko:inK d k i p=if (put d.map (Flw.at d k).down p.at_ p.text false).2.2=false then (d,none)
          else (⟨d.map,d.flows.set k { Flw.at d k with down:=(put d.map (Flw.at d k).down p.at_ p.text false).2.1 }⟩,
            (sendOn (Flw.at d k).down (put d.map (Flw.at d k).down p.at_ p.text false).2.1 p).map fun q=>{ q with to:=i }):=by
        simp only [inK];rw [if_neg (by assumption)]
      rintro res out ⟨h,rfl,rfl⟩
      generalize hP:put d.map (Flw.at d k).down p.at_ p.text false=P at *
      obtain ⟨m',s',ok'⟩:=P
      simp only at h hpk hko
      subst h
      cases ok'<;>simp only [go_sem]
      · rw [if_pos rfl] at hko
        with_reducible repeat' (first|refine br ?_ ?_<;>intro h e<;>(try simp only [e,go_sem])<;>clear e|rw [i64w (by omega)]|refine sd ?_<;>try simp only [go_sem]|fail)
        refine doorRet (q:=none) 0 1 hko ?_ ?_ ?_ ?_ ?_ ?_ ?_ (by decide)<;>simp only [go_sem,Option.isSome_none,Option.getD_none,Pk.zero,E.zero]
      rw [if_neg (by simp),sendR_on] at hko
      have f3:=c194 (Flw.at d k).down s' p (strmOk_B hpk.2) (by have:=s2.1;omega) (by omega) (by omega)
      generalize hS:sendR (Flw.at d k).down s' p=S at *
      obtain ⟨q,okq⟩:=S
      simp only at hko
      cases okq
      all_goals
        with_reducible repeat' (first|refine br ?_ ?_<;>intro h e<;>(try simp only [e,go_sem])<;>clear e|rw [i64w (by omega)]|refine sd ?_<;>try simp only [go_sem]|(first|refine cr (f3 ..) ?_)<;>try simp only [go_sem]|fail)
      · refine doorRet (d:=⟨d.map,d.flows.set k { Flw.at d k with down:=s' }⟩) (q:=none) 0 1 (by rw [hko];rfl) ?_ ?_ ?_ ?_ ?_ ?_ ?_ (by decide)<;>simp only [go_sem,Option.isSome_none,Option.getD_none,Pk.zero,E.zero,List.map_set,List.length_set,getD_mp hk,hg]
      · refine doorRet (d:=⟨d.map,d.flows.set k { Flw.at d k with down:=s' }⟩) (q:=some { q with to:=i }) 0 1 (by rw [hko];rfl) ?_ ?_ ?_ ?_ ?_ ?_ ?_ (by decide)<;>simp only [go_sem,Option.isSome_some,Option.getD_some,List.map_set,List.length_set,getD_mp hk,hg]
def ic165:IC:=sR [oP 2 (.box 30 (.t 0)),oP 3 (.box 54 (.t 1)),oP 4 (.alloc 30 [.nils,.nils]),oP 5 (.alloc 54 [i0,i0,i0,i0,i0,i0,s0]),oP 6 (.mv (.c (.bool false)))] (.seq (.block 0 (sR [fD 8 1 3,lA 9 2 8,oP 10 (.call 127 [.t 9]),mV 11 10,⟨some 12,some (11,true),.fad 3 (.t 3)⟩,⟨some 13,some (11,true),.ld 2 true (.t 12)⟩,⟨some 14,some (11,true),.call 108 [.t 13]⟩,oP 15 (.pick (.t 11) (.t 14) (.c (.bool false))),mV 7 15] (.cond (.t 7) (sR [lA 16 2 2,lA 17 7 3,oP 18 (.call 178 [.t 16,.t 17]),eX 19 18 0,eX 20 18 1,eX 21 18 2,nP (.sto 2 (.t 4) (.t 19)),nP (.sto 7 (.t 5) (.t 20)),mV 6 21] .ret) (sR [fD 23 1 3,lA 24 2 23,oP 25 (.call 108 [.t 24]),mV 26 25,⟨some 27,some (26,true),.fad 3 (.t 3)⟩,⟨some 28,some (26,true),.ld 2 true (.t 27)⟩,⟨some 29,some (26,true),.call 133 [.t 28]⟩,oP 30 (.pick (.t 26) (.t 29) (.c (.bool false))),mV 22 30] (.cond (.t 22) (sR [lA 31 2 2,lA 32 7 3,oP 33 (.call 179 [.t 31,.t 32]),eX 34 33 0,eX 35 33 1,eX 36 33 2,nP (.sto 2 (.t 4) (.t 34)),nP (.sto 7 (.t 5) (.t 35)),mV 6 36] .ret) .skip))))) (sR [lA 37 2 2,oP 38 (.build [i0,i0,i0,i0,i0,i0,s0] []),nP (.sto 2 (.t 4) (.t 37)),nP (.sto 7 (.t 5) (.t 38)),oP 6 (.mv (.c (.bool false)))] .ret))
theorem dg165:Dg Tryz.prog 165 Tryz.f165 ic165 [(.cell 4 2 true),(.cell 5 7 true),(.t 6)]:=⟨Tryz.func165,by kernel_rfl,by kernel_rfl⟩
theorem c165 (d:Door) (p:Pk) (hd:doorOk d=true) (hl:d.flows.length≤3) (hp:PkP p):FnP Tryz.prog G 165 0 [.arr 64 3 (d.map.map Pair.row),.arr 46 8 (d.flows.map Flw.row)]
    [.agg [.own 0 d.map.length,.own 1 d.flows.length],.agg [.int .i64 p.kind,.int .i64 p.frm.a,.int .i64 p.frm.p,.int .i64 p.to.a,.int .i64 p.to.p,.int .i64 p.at_,.str p.text]] (doorA (dPass d p)):=by
  refine mP dg165 Tryz.ntmps165 ⟨_,_,rfl,rfl⟩ ?_
  simp only [ic165,go_sem]
  with_reducible repeat' (first|refine br ?_ ?_<;>intro h e<;>(try simp only [e,go_sem])<;>clear e|rw [i64w (by omega)]|refine sd ?_<;>try simp only [go_sem]|(first|refine cr (c127 ..) ?_|refine cr (c108 ..) ?_|refine cr (c133 ..) ?_)<;>try simp only [go_sem]|fail)
  all_goals first
    | (have hx:dPass d p=(d,none):=by simp_all [dPass,Pk.outward,Pk.inward]
       refine doorRet (q:=none) 0 1 hx ?_ ?_ ?_ ?_ ?_ ?_ ?_ (by decide)<;>simp only [go_sem,Option.isSome_none,Option.getD_none,Pk.zero,E.zero])
    | (have hx:dPass d p=dOut d p:=by simp_all [dPass,Pk.outward,Pk.inward]
       refine callU (c178 d p hd hl hp (by assumption) (by assumption)) [0,1] [] 18 2 (by simp only [go_sem];first|done|simp) (by simp only [go_sem];first|done|simp) (by simp) (by simp) (by rintro _ _ ⟨rfl,rfl⟩;simp) (by intro i hi;rcases (show i=0∨i=1 by omega) with rfl|rfl<;>simp only [go_sem]) ?_
       rintro _ _ ⟨rfl,rfl⟩
       simp only [go_sem]
       refine doorRet (d:=(dOut d p).1) (q:=(dOut d p).2) 101800 101801 hx ?_ ?_ ?_ ?_ ?_ ?_ ?_ (by decide)<;>simp only [go_sem])
    | (have hx:dPass d p=dIn d p:=by simp_all [dPass,Pk.outward,Pk.inward]
       refine callU (c179 d p hd hp (by assumption)) [0,1] [] 33 2 (by simp only [go_sem];first|done|simp) (by simp only [go_sem];first|done|simp) (by simp) (by simp) (by rintro _ _ ⟨rfl,rfl⟩;simp) (by intro i hi;rcases (show i=0∨i=1 by omega) with rfl|rfl<;>simp only [go_sem]) ?_
       rintro _ _ ⟨rfl,rfl⟩
       simp only [go_sem]
       refine doorRet (d:=(dIn d p).1) (q:=(dIn d p).2) 103300 103301 hx ?_ ?_ ?_ ?_ ?_ ?_ ?_ (by decide)<;>simp only [go_sem])
def passA (x:M.World × Option Pk) (r:V) (out:List Hs):Prop:=r=.tup [.agg [.own 0 x.1.convs.length,.own 1 x.1.door.map.length,.own 2 x.1.door.flows.length,.own 3 x.1.nets.length],.agg (Pk.row (x.2.getD .zero)),.bool x.2.isSome]∧out=[.arr 41 10 (x.1.convs.map Conv.row),.arr 64 3 (x.1.door.map.map Pair.row),.arr 46 8 (x.1.door.flows.map Flw.row),.arr 54 7 (x.1.nets.map Pk.row)]
theorem passRet {x:M.World × Option Pk} {w:M.World} {q:Option Pk} {l:List (Nat × V)} {mm:List (Nat × Hs)} (n0 n1 n2 n3:Nat) (hx:x=(w,q)) (h4:getL l 4=.pv 1004 0) (h5:getL l 5=.pv 1005 0) (h6:getL l 6=.bool q.isSome)
    (m4:getH mm 1004=.var 33 [.own n0 w.convs.length,.own n1 w.door.map.length,.own n2 w.door.flows.length,.own n3 w.nets.length]) (m5:getH mm 1005=.var 54 (Pk.row (q.getD .zero)))
    (m0:getH mm n0=.arr 41 10 (w.convs.map Conv.row)) (m1:getH mm n1=.arr 64 3 (w.door.map.map Pair.row)) (m2:getH mm n2=.arr 46 8 (w.door.flows.map Flw.row)) (m3:getH mm n3=.arr 54 7 (w.nets.map Pk.row))
    (hne:[n0,n1,n2,n3].Nodup):retQ [.cell 4 4 true,.cell 5 7 true,.t 6] 0 (passA x) .ret ⟨getL l,getH mm⟩:=by
  subst hx
  refine retN (.tup [.agg [.own 0 w.convs.length,.own 1 w.door.map.length,.own 2 w.door.flows.length,.own 3 w.nets.length],.agg (Pk.row (q.getD .zero)),.bool q.isSome]) [.arr 41 10 (w.convs.map Conv.row),.arr 64 3 (w.door.map.map Pair.row),.arr 46 8 (w.door.flows.map Flw.row),.arr 54 7 (w.nets.map Pk.row)] [(0,n0),(1,n1),(2,n2),(3,n3)] ?_ ⟨rfl,rfl⟩ ?_ (by simpa [argH,getN] using hne) (by simp only [go_sem])
  · simp only [go_sem,h4,h5,h6,m4,m5]
  · simp only [go_sem,m0,m1,m2,m3]
def ic180:IC:=sR [oP 3 (.box 41 (.t 0)),oP 5 (.box 54 (.t 2)),oP 6 (.alloc 41 [i0,i0,i0,i0,s0,s0,i0,i0,s0,s0]),oP 7 (.alloc 54 [i0,i0,i0,i0,i0,i0,s0]),oP 8 (.mv (.c (.bool false)))] (sR [fD 10 3 5,lA 11 2 10,fD 12 1 5,lA 13 2 12,oP 14 (.build [i0,i0,i0,i0,i0,i0,s0] [(0,(1,.c (.int .i64 2))),(1,(2,.t 11)),(3,(2,.t 13))]),oP 9 (.alloc 54 [i0,i0,i0,i0,i0,i0,s0]),nP (.sto 7 (.t 9) (.t 14))] (.seq (sR [mV 15 1,mV 16 15,⟨some 17,some (16,true),.fad 1 (.t 5)⟩,⟨some 18,some (16,true),.ld 2 true (.t 17)⟩,⟨some 19,some (16,true),.fad 2 (.t 3)⟩,⟨some 20,some (16,true),.ld 2 true (.t 19)⟩,⟨some 21,some (16,true),.eqs true [.i,.i] (.t 18) (.t 20)⟩,⟨some 22,some (16,true),.mv (.t 21)⟩,⟨some 23,some (22,false),.fad 3 (.t 5)⟩,⟨some 24,some (22,false),.ld 2 true (.t 23)⟩,⟨some 25,some (22,false),.fad 0 (.t 3)⟩,⟨some 26,some (22,false),.ld 2 true (.t 25)⟩,⟨some 27,some (22,false),.eqs true [.i,.i] (.t 24) (.t 26)⟩,⟨some 28,some (16,true),.pick (.t 22) (.c (.bool true)) (.t 27)⟩,oP 29 (.pick (.t 16) (.t 28) (.c (.bool false))),mV 30 29,⟨some 31,some (30,false),.mv (.t 1)⟩,⟨some 32,some (30,false),.un .not (.t 31)⟩,⟨some 33,some (30,false),.mv (.t 32)⟩,⟨some 34,some (33,true),.fad 3 (.t 5)⟩,⟨some 35,some (33,true),.ld 2 true (.t 34)⟩,⟨some 36,some (33,true),.fad 2 (.t 3)⟩,⟨some 37,some (33,true),.ld 2 true (.t 36)⟩,⟨some 38,some (33,true),.eqs true [.i,.i] (.t 35) (.t 37)⟩,⟨some 39,some (33,true),.mv (.t 38)⟩,⟨some 40,some (39,false),.fad 1 (.t 5)⟩,⟨some 41,some (39,false),.ld 2 true (.t 40)⟩,⟨some 42,some (39,false),.call 133 [.t 41]⟩,⟨some 43,some (39,false),.un .not (.t 42)⟩,⟨some 44,some (33,true),.pick (.t 39) (.c (.bool true)) (.t 43)⟩,⟨some 45,some (30,false),.pick (.t 33) (.t 44) (.c (.bool false))⟩,oP 46 (.pick (.t 30) (.c (.bool true)) (.t 45))] (.cond (.t 46) (sR [lA 47 10 3,oP 48 (.build [i0,i0,i0,i0,i0,i0,s0] []),nP (.sto 10 (.t 6) (.t 47)),nP (.sto 7 (.t 7) (.t 48)),oP 8 (.mv (.c (.bool false)))] .ret) .skip)) (.seq (.block 0 (sR [fD 60 0 5,lD 61 1 60,oP 62 (.bin .eql (.t 61) (.c (.int .i64 1))),mV 63 62,⟨some 64,some (63,true),.mv (.t 1)⟩,oP 65 (.pick (.t 63) (.t 64) (.c (.bool false))),mV 59 65] (.cond (.t 59) (sR [fD 67 9 3,lD 68 1 67,fD 69 5 5,lD 70 1 69,fD 71 6 5,lD 72 1 71,oP 73 (.call 196 [.t 68,.t 70,.t 72]),mV 66 73,eX 74 66 0,eX 75 66 1,fD 76 9 3,nP (.sto 1 (.t 76) (.t 74))] (sR [fD 77 9 3,lD 78 1 77,oP 79 (.lens (.t 78)),fD 80 5 9,nP (.sto 1 (.t 80) (.t 79))] (.seq (.drw [0,0,1,7,15] [(0,lA 81 10 3),(1,lA 82 7 9),(2,nP (.sto 10 (.t 6) (.t 81))),(3,nP (.sto 7 (.t 7) (.t 82))),(4,oP 8 (.mv (.c (.bool true))))]) .ret))) (sR [fD 84 0 5,lD 85 1 84,oP 86 (.bin .eql (.t 85) (.c (.int .i64 1))),mV 83 86] (.cond (.t 83) (sR [fD 88 8 3,lD 89 1 88,fD 90 5 5,lD 91 1 90,fD 92 6 5,lD 93 1 92,oP 94 (.call 196 [.t 89,.t 91,.t 93]),mV 87 94,eX 95 87 0,eX 96 87 1,fD 97 8 3,nP (.sto 1 (.t 97) (.t 95))] (sR [fD 98 8 3,lD 99 1 98,oP 100 (.lens (.t 99)),fD 101 5 9,nP (.sto 1 (.t 101) (.t 100))] (.seq (.drw [0,0,1,7,15] [(0,lA 102 10 3),(1,lA 103 7 9),(2,nP (.sto 10 (.t 6) (.t 102))),(3,nP (.sto 7 (.t 7) (.t 103))),(4,oP 8 (.mv (.c (.bool true))))]) .ret))) (sR [mV 105 1,mV 104 105] (.cond (.t 104) (.reg [fD 106 6 3,lD 107 1 106,fD 108 5 5,lD 109 1 108,fD 110 4 3,lD 111 1 110,oP 112 (.lens (.t 111)),oP 113 (.mn (.t 109) (.t 112)),oP 114 (.mx (.t 107) (.t 113)),fD 115 6 3,nP (.sto 1 (.t 115) (.t 114))]) (.reg [fD 49 7 3,lD 50 1 49,fD 51 5 5,lD 52 1 51,fD 53 5 3,lD 54 1 53,oP 55 (.lens (.t 54)),oP 56 (.mn (.t 52) (.t 55)),oP 57 (.mx (.t 50) (.t 56)),fD 58 7 3,nP (.sto 1 (.t 58) (.t 57))])))))))) (sR [lA 116 10 3,oP 117 (.build [i0,i0,i0,i0,i0,i0,s0] []),nP (.sto 10 (.t 6) (.t 116)),nP (.sto 7 (.t 7) (.t 117)),oP 8 (.mv (.c (.bool false)))] .ret))))
theorem dg180:Dg Tryz.prog 180 Tryz.f180 ic180 [(.cell 6 10 true),(.cell 7 7 true),(.t 8)]:=⟨Tryz.func180,by kernel_rfl,by kernel_rfl⟩
theorem c180 (c:Conv) (b:Bool) (p:Pk) (hc:CvB c) (hp:PkP p):FnR Tryz.prog G 180 [.agg [.int .i64 c.ins.a,.int .i64 c.ins.p,.int .i64 c.out.a,.int .i64 c.out.p,.str c.up,.str c.down,.int .i64 c.upAck,.int .i64 c.downAck,.str c.upGot,.str c.downGot],.bool b,.agg [.int .i64 p.kind,.int .i64 p.frm.a,.int .i64 p.frm.p,.int .i64 p.to.a,.int .i64 p.to.p,.int .i64 p.at_,.str p.text]]
    (.tup [.agg (Conv.row (hear c b p).1),.agg (Pk.row ((hear c b p).2.getD .zero)),.bool (hear c b p).2.isSome]):=by
  refine mF dg180 Tryz.ntmps180 ?_
  have h1:=hp.at_
  have h2:=hp.len
  have h3:=hc.upGot
  have h4:=hc.downGot
  have g1:=c196 c.upGot p.at_ p.text (by omega) (by omega) (by omega)
  have g2:=c196 c.downGot p.at_ p.text (by omega) (by omega) (by omega)
  simp only [ic180,go_sem]
  cases b<;>simp only [go_sem,E.ext_iff']
  all_goals
    with_reducible repeat' (first|refine br ?_ ?_<;>intro h e<;>(try simp only [e,go_sem,E.ext_iff'])<;>clear e|rw [i64w (by omega)]|refine sd ?_<;>try simp only [go_sem,E.ext_iff']|(first|refine cr (c133 ..) ?_|refine cr (g1 ..) ?_|refine cr (g2 ..) ?_)<;>try simp only [go_sem,E.ext_iff']|fail)
  all_goals clear g1 g2
  all_goals first
    | (simp_all [hear,Pk.zero,E.zero];done)
    | (have hk:p.kind=2:=by have:=hp.kd;omega
       simp_all [hear,Pk.zero,E.zero];done)
def ic166:IC:=sR [oP 2 (.box 33 (.t 0)),oP 3 (.box 54 (.t 1)),oP 4 (.alloc 33 [.nils,.nils,.nils,.nils]),oP 5 (.alloc 54 [i0,i0,i0,i0,i0,i0,s0]),oP 6 (.mv (.c (.bool false)))] (.seq (sR [oP 7 (.mv (.c i0))] (.block 0 (.loop (.seq (sR [mV 14 7,fD 15 0 2,lD 16 1 15,oP 17 (.len (.t 16)),bN 18 .lss 14 17] (.cond (.t 18) .skip (.exit 0))) (.seq (.block 1 (sR [fD 21 0 2,lD 22 1 21,mV 23 7,oP 24 (.iad 10 (.t 22) (.t 23)),lA 25 10 24,oP 8 (.alloc 41 [i0,i0,i0,i0,s0,s0,i0,i0,s0,s0]),nP (.sto 10 (.t 8) (.t 25))] (sR [fD 26 3 3,lA 27 2 26,fD 28 0 8,lA 29 2 28,oP 30 (.eqs false [.i,.i] (.t 27) (.t 29)),mV 31 30,⟨some 32,some (31,true),.fad 1 (.t 3)⟩,⟨some 33,some (31,true),.ld 2 true (.t 32)⟩,⟨some 34,some (31,true),.fad 2 (.t 8)⟩,⟨some 35,some (31,true),.ld 2 true (.t 34)⟩,⟨some 36,some (31,true),.eqs false [.i,.i] (.t 33) (.t 35)⟩,oP 37 (.pick (.t 31) (.t 36) (.c (.bool false))),mV 9 37] (.seq (.drw [0,1,0,4,15,31,63,127,255,511,1023,2047,2047,6143,16383,2047,34815,100351,262143,524287,1048575] [(0,fD 38 3 3),(1,lA 39 2 38),(2,fD 40 2 8),(3,lA 41 2 40),(4,oP 42 (.eqs false [.i,.i] (.t 39) (.t 41))),(5,mV 43 42),(6,⟨some 44,some (43,true),.fad 1 (.t 3)⟩),(7,⟨some 45,some (43,true),.ld 2 true (.t 44)⟩),(8,⟨some 46,some (43,true),.call 133 [.t 45]⟩),(9,oP 47 (.pick (.t 43) (.t 46) (.c (.bool false)))),(10,mV 48 47),(11,⟨some 49,some (48,true),.ld 4 true (.t 2)⟩),(12,⟨some 50,some (48,true),.fad 0 (.t 8)⟩),(13,⟨some 51,some (48,true),.ld 2 true (.t 50)⟩),(14,⟨some 52,some (48,true),.call 131 [.t 49,.t 51]⟩),(15,⟨some 53,some (48,true),.fad 1 (.t 3)⟩),(16,⟨some 54,some (48,true),.fad 1 (.t 53)⟩),(17,⟨some 55,some (48,true),.ld 1 false (.t 54)⟩),(18,⟨some 56,some (48,true),.bin .eql (.t 52) (.t 55)⟩),(19,oP 57 (.pick (.t 48) (.t 56) (.c (.bool false)))),(20,mV 10 57)]) (sR [mV 58 9,mV 59 58,⟨some 60,some (59,false),.mv (.t 10)⟩,oP 61 (.pick (.t 59) (.c (.bool true)) (.t 60))] (.cond (.t 61) (sR [lA 63 10 8,mV 64 9,lA 65 7 3,oP 66 (.call 180 [.t 63,.t 64,.t 65]),mV 62 66,eX 67 62 0,eX 68 62 1,eX 69 62 2,oP 11 (.alloc 41 [i0,i0,i0,i0,s0,s0,i0,i0,s0,s0]),oP 12 (.alloc 54 [i0,i0,i0,i0,i0,i0,s0]),nP (.sto 10 (.t 11) (.t 67)),nP (.sto 7 (.t 12) (.t 68)),mV 13 69] (sR [fD 70 0 2,lD 71 1 70,mV 72 7,lA 73 10 11,oP 74 (.iad 10 (.t 71) (.t 72)),nP (.sto 10 (.t 74) (.t 73))] (.seq (.drw [0,0,0,1,11,31] [(0,lA 75 4 2),(1,lA 76 7 12),(2,mV 77 13),(3,nP (.sto 4 (.t 4) (.t 75))),(4,nP (.sto 7 (.t 5) (.t 76))),(5,mV 6 77)]) .ret))) .skip)))))) (.reg [mV 19 7,oP 20 (.bin .add (.t 19) (.c (.int .i64 1))),mV 7 20])))))) (sR [lA 78 4 2,oP 79 (.build [i0,i0,i0,i0,i0,i0,s0] []),nP (.sto 4 (.t 4) (.t 78)),nP (.sto 7 (.t 5) (.t 79)),oP 6 (.mv (.c (.bool false)))] .ret))
theorem dg166:Dg Tryz.prog 166 Tryz.f166 ic166 [(.cell 4 4 true),(.cell 5 7 true),(.t 6)]:=⟨Tryz.func166,by kernel_rfl,by kernel_rfl⟩
theorem x166 {X:List (E × E)} (w:M.World) (p:Pk) (hw:WX X w) (hp:PkP p):FnP Tryz.prog G 166 0 [.arr 41 10 (w.convs.map Conv.row),.arr 64 3 (w.door.map.map Pair.row),.arr 46 8 (w.door.flows.map Flw.row),.arr 54 7 (w.nets.map Pk.row)] [.agg [.own 0 w.convs.length,.own 1 w.door.map.length,.own 2 w.door.flows.length,.own 3 w.nets.length],.agg [.int .i64 p.kind,.int .i64 p.frm.a,.int .i64 p.frm.p,.int .i64 p.to.a,.int .i64 p.to.p,.int .i64 p.at_,.str p.text]] (passA (hostR w p)):=by
  refine mP dg166 Tryz.ntmps166 ⟨_,_,rfl,rfl⟩ ?_
  have hml:=(mapOk_ports (doorOk_iff.1 hw.door).1).2
  have hcl:=hw.cl
  simp only [ic166,go_sem]
  refine loopN (fun k:Nat=>⟨getL [(2,.pv 1002 0),(3,.pv 1003 0),(4,.pv 1004 0),(5,.pv 1005 0),(7,.int .i64 (k:Int))],getH [(1002,.var 33 [.own 0 w.convs.length,.own 1 w.door.map.length,.own 2 w.door.flows.length,.own 3 w.nets.length]),(1003,.var 54 [.int .i64 p.kind,.int .i64 p.frm.a,.int .i64 p.frm.p,.int .i64 p.to.a,.int .i64 p.to.p,.int .i64 p.at_,.str p.text]),(1004,.var 33 [.nils,.nils,.nils,.nils]),(1005,.var 54 [.int .i64 0,.int .i64 0,.int .i64 0,.int .i64 0,.int .i64 0,.int .i64 0,.str []]),(0,.arr 41 10 (w.convs.map Conv.row)),(1,.arr 64 3 (w.door.map.map Pair.row)),(2,.arr 46 8 (w.door.flows.map Flw.row)),(3,.arr 54 7 (w.nets.map Pk.row))]⟩)
    (fun k=>w.convs.length - k) (fun k=>k≤w.convs.length∧(w.convs.take k).any (matchC w p)=false) 0 (leQ []) ⟨Nat.zero_le _,by simp⟩ ?_
  intro k ⟨hk,ha⟩
  simp only [go_sem]
  by_cases h:(k:Int)<w.convs.length
  · have hil:k<w.convs.length:=by omega
    have hg:w.convs.getD k default=w.convs[k]:=by simp [List.getD,hil]
    have hat:=hostR_at (w:=w) (p:=p) hil ha
    have hstep:matchC w p w.convs[k]=false→(w.convs.take (k+1)).any (matchC w p)=false:=fun hm=>by
      rw [List.take_add_one,List.getElem?_eq_getElem hil]
      simp only [Option.toList_some,List.any_append,ha,List.any_cons,List.any_nil,Bool.or_false,Bool.false_or,hm]
    have hB:=convOk_B (hw.cv _ (List.getElem_mem hil))
    rw [matchC_e] at hat hstep
    simp only [eq_comm (a:=p.frm.p)] at hat hstep
    simp only [eq_true h,go_sem]
    generalize hc:w.convs[k]=c at *
    generalize hinw:(decide (p.to=c.ins) && decide (p.frm=c.out))=inw at *
    have g1:=fun b=>c180 c b p hB hp
    have g2:=c131 w c.ins (by omega)
    with_reducible repeat' (first|refine br ?_ ?_<;>intro h e<;>(try simp only [e,go_sem,getD_mp hil,hg,hc,E.ext_iff'])<;>clear e|rw [i64w (by omega)]|refine sd ?_<;>try simp only [go_sem,getD_mp hil,hg,hc,E.ext_iff']|(first|refine cr (c133 ..) ?_|refine cf (g2 ..) [0,1,2,3] ?_|refine cr (g1 ..) ?_)<;>try simp only [go_sem,getD_mp hil,hg,hc,E.ext_iff']|fail)
    all_goals clear g1 g2
    all_goals first
      | (refine ⟨k+1,by omega,⟨by omega,hstep ?_⟩,(leQ [])⟩
         simp_all;done)
      | (have hh:=hat (by simp_all)
         have hi:inw=true:=by simp_all
         rw [hi] at hh
         refine passRet (w:={ w with convs:=w.convs.set k (hear c true p).1 }) (q:=(hear c true p).2) 0 1 2 3 hh ?_ ?_ ?_ ?_ ?_ ?_ ?_ ?_ ?_ (by decide)
         all_goals simp only [go_sem,List.map_set,List.length_set,getD_mp hil,hg]
         done)
      | (have hh:=hat (by simp_all)
         have hi:inw=false:=by simp_all
         rw [hi] at hh
         refine passRet (w:={ w with convs:=w.convs.set k (hear c false p).1 }) (q:=(hear c false p).2) 0 1 2 3 hh ?_ ?_ ?_ ?_ ?_ ?_ ?_ ?_ ?_ (by decide)
         all_goals simp only [go_sem,List.map_set,List.length_set,getD_mp hil,hg]
         done)
  · simp only [eq_false h,go_sem]
    have:k=w.convs.length:=by omega
    subst this
    rw [List.take_length] at ha
    rw [hostR_no ha]
    refine passRet (q:=none) 0 1 2 3 rfl ?_ ?_ ?_ ?_ ?_ ?_ ?_ ?_ ?_ (by decide)<;>simp only [go_sem,Option.isSome_none,Option.getD_none,Pk.zero,E.zero]
def ic132:IC:=sR [oP 2 (.box 33 (.t 0)),oP 3 (.box 54 (.t 1)),oP 4 (.alloc 33 [.nils,.nils,.nils,.nils]),oP 5 (.alloc 54 [i0,i0,i0,i0,i0,i0,s0]),oP 6 (.mv (.c (.bool false)))] (.seq (sR [fD 10 3 3,lA 11 2 10,oP 12 (.call 133 [.t 11]),mV 13 12,⟨some 14,some (13,false),.fad 1 (.t 3)⟩,⟨some 15,some (13,false),.ld 2 true (.t 14)⟩,⟨some 16,some (13,false),.call 127 [.t 15]⟩,oP 17 (.pick (.t 13) (.c (.bool true)) (.t 16))] (.cond (.t 17) (sR [fD 19 1 2,lA 20 2 19,lA 21 7 3,oP 22 (.call 165 [.t 20,.t 21]),mV 18 22,eX 23 18 0,eX 24 18 1,eX 25 18 2,oP 7 (.alloc 30 [.nils,.nils]),oP 8 (.alloc 54 [i0,i0,i0,i0,i0,i0,s0]),nP (.sto 2 (.t 7) (.t 23)),nP (.sto 7 (.t 8) (.t 24)),mV 9 25] (sR [lA 26 2 7,fD 27 1 2,nP (.sto 2 (.t 27) (.t 26))] (.seq (.drw [0,0,0,1,11,31] [(0,lA 28 4 2),(1,lA 29 7 8),(2,mV 30 9),(3,nP (.sto 4 (.t 4) (.t 28))),(4,nP (.sto 7 (.t 5) (.t 29))),(5,mV 6 30)]) .ret))) .skip)) (sR [lA 31 4 2,lA 32 7 3,oP 33 (.call 166 [.t 31,.t 32]),eX 34 33 0,eX 35 33 1,eX 36 33 2,nP (.sto 4 (.t 4) (.t 34)),nP (.sto 7 (.t 5) (.t 35)),mV 6 36] .ret))
theorem dg132:Dg Tryz.prog 132 Tryz.f132 ic132 [(.cell 4 4 true),(.cell 5 7 true),(.t 6)]:=⟨Tryz.func132,by kernel_rfl,by kernel_rfl⟩
theorem x132 {X:List (E × E)} (w:M.World) (p:Pk) (hw:WX X w) (hp:PkP p):FnP Tryz.prog G 132 0 [.arr 41 10 (w.convs.map Conv.row),.arr 64 3 (w.door.map.map Pair.row),.arr 46 8 (w.door.flows.map Flw.row),.arr 54 7 (w.nets.map Pk.row)] [.agg [.own 0 w.convs.length,.own 1 w.door.map.length,.own 2 w.door.flows.length,.own 3 w.nets.length],.agg [.int .i64 p.kind,.int .i64 p.frm.a,.int .i64 p.frm.p,.int .i64 p.to.a,.int .i64 p.to.p,.int .i64 p.at_,.str p.text]] (passA (carry w p)):=by
  refine mP dg132 Tryz.ntmps132 ⟨_,_,rfl,rfl⟩ ?_
  have hdoor:(p.to.door=true∨p.frm.inside=true)→carry w p=({ w with door:=(dPass w.door p).1 },(dPass w.door p).2):=fun h=>carry_door (by simpa using h)
  have hhost:p.to.door=false→p.frm.inside=false→carry w p=hostR w p:=fun h1 h2=>carry_host (by simp [h1,h2])
  simp only [ic132,go_sem]
  with_reducible repeat' (first|refine br ?_ ?_<;>intro h e<;>(try simp only [e,go_sem])<;>clear e|rw [i64w (by omega)]|refine sd ?_<;>try simp only [go_sem]|(first|refine cr (c133 ..) ?_|refine cr (c127 ..) ?_)<;>try simp only [go_sem]|fail)
  · refine callU (c165 w.door p hw.door hw.flows3 hp) [1,2] [] 22 2 (by simp only [go_sem];first|done|simp) (by simp only [go_sem];first|done|simp) (by simp) (by simp) (by rintro _ _ ⟨rfl,rfl⟩;simp) (by intro i hi;rcases (show i=0∨i=1 by omega) with rfl|rfl<;>simp only [go_sem]) ?_
    rintro _ _ ⟨rfl,rfl⟩
    simp only [go_sem]
    with_reducible repeat' (first|refine br ?_ ?_<;>intro h e<;>(try simp only [e,go_sem])<;>clear e|rw [i64w (by omega)]|refine sd ?_<;>try simp only [go_sem]|fail)
    refine passRet (w:={ w with door:=(dPass w.door p).1 }) (q:=(dPass w.door p).2) 0 102200 102201 3 (hdoor (.inl (by assumption))) ?_ ?_ ?_ ?_ ?_ ?_ ?_ ?_ ?_ (by decide)<;>simp only [go_sem]
  · refine callU (c165 w.door p hw.door hw.flows3 hp) [1,2] [] 22 2 (by simp only [go_sem];first|done|simp) (by simp only [go_sem];first|done|simp) (by simp) (by simp) (by rintro _ _ ⟨rfl,rfl⟩;simp) (by intro i hi;rcases (show i=0∨i=1 by omega) with rfl|rfl<;>simp only [go_sem]) ?_
    rintro _ _ ⟨rfl,rfl⟩
    simp only [go_sem]
    with_reducible repeat' (first|refine br ?_ ?_<;>intro h e<;>(try simp only [e,go_sem])<;>clear e|rw [i64w (by omega)]|refine sd ?_<;>try simp only [go_sem]|fail)
    refine passRet (w:={ w with door:=(dPass w.door p).1 }) (q:=(dPass w.door p).2) 0 102200 102201 3 (hdoor (.inr (by assumption))) ?_ ?_ ?_ ?_ ?_ ?_ ?_ ?_ ?_ (by decide)<;>simp only [go_sem]
  · refine callU (x166 w p hw hp) [0,1,2,3] [] 33 4 (by simp only [go_sem];first|done|simp) (by simp only [go_sem];first|done|simp) (by simp) (by simp) (by rintro _ _ ⟨rfl,rfl⟩;simp) (by intro i hi;rcases (show i=0∨i=1∨i=2∨i=3 by omega) with rfl|rfl|rfl|rfl<;>simp only [go_sem]) ?_
    rintro _ _ ⟨rfl,rfl⟩
    simp only [go_sem]
    with_reducible repeat' (first|refine br ?_ ?_<;>intro h e<;>(try simp only [e,go_sem])<;>clear e|rw [i64w (by omega)]|refine sd ?_<;>try simp only [go_sem]|fail)
    refine passRet (w:=(hostR w p).1) (q:=(hostR w p).2) 103300 103301 103302 103303 (hhost (by assumption) (by assumption)) ?_ ?_ ?_ ?_ ?_ ?_ ?_ ?_ ?_ (by decide)<;>simp only [go_sem]
theorem PkP.ofNet {X:List (E × E)} {w:M.World} (h:WX X w) {k:Nat} {p:Pk} (hp:w.nets[k]?=some p):PkP p:=(h.net p (List.mem_of_getElem? hp)).pk
def netR (w:M.World) (k a:Int):M.World :=
  if within a 0 ((w.nets.length:Int) - 1) then
    if k=5 then send w w.nets[a.toNat]?
    else if k=4 then { w with nets:=w.nets.eraseIdx a.toNat }
    else match w.nets[a.toNat]? with
      | some p=>send (carry { w with nets:=w.nets.eraseIdx a.toNat } p).1 (carry { w with nets:=w.nets.eraseIdx a.toNat } p).2
      | none=>w
  else w
theorem netR_is (w:M.World) (e:Ev) (h:e.kind=3∨e.kind=4∨e.kind=5):wDo w e=netR w e.kind e.a:=by
  unfold wDo netR
  rcases h with h|h|h<;>simp only [h]<;>simp<;>rfl
def rowV (sz c o n:Nat):Hs→Option (List (List V) × List Nat)
  | .arr _ s rows=>if s=sz then guardP (o+n≤rows.length) (some ((rows.drop o).take n,[c])) else none
  | _=>none
theorem rowO_view (h:Nat→Hs) (sz c o n):rowO h sz (.view c o n)=rowV sz c o n (h c):=by simp only [rowO,rowsF,rowV];cases h c<;>rfl
theorem rowV_a {sz c o n ty rows} (hl:o+n≤rows.length):rowV sz c o n (.arr ty sz rows)=some ((rows.drop o).take n,[c]):=by
  simp [rowV,guardP,hl]
def ic82:IC:=sR [oP 2 (.box 33 (.t 0)),oP 3 (.box 56 (.t 1)),oP 4 (.alloc 33 [.nils,.nils,.nils,.nils])] (.seq (sR [fD 9 1 3,lD 10 1 9,fD 11 3 2,lD 12 1 11,oP 13 (.len (.t 12)),oP 14 (.bin .sub (.t 13) (.c (.int .i64 1))),oP 15 (.call 63 [.t 10,.c i0,.t 14]),oP 16 (.un .not (.t 15))] (.cond (.t 16) (sR [lA 17 4 2,nP (.sto 4 (.t 4) (.t 17))] .ret) .skip)) (sR [fD 18 3 2,lD 19 1 18,fD 20 1 3,lD 21 1 20,oP 22 (.iad 7 (.t 19) (.t 21)),lA 23 7 22,oP 5 (.alloc 54 [i0,i0,i0,i0,i0,i0,s0]),nP (.sto 7 (.t 5) (.t 23))] (.seq (sR [fD 24 0 3,lD 25 1 24,oP 26 (.bin .eql (.t 25) (.c (.int .i64 5)))] (.cond (.t 26) (sR [lA 27 4 2,lA 28 7 5,oP 29 (.call 81 [.t 27,.t 28,.c (.bool true)]),nP (.sto 4 (.t 4) (.t 29))] .ret) .skip)) (.seq (.drw [0,0,2,0,8,30,63,0,128,0,512,1536,3968,8191,16383,32767] [(0,oP 30 (.bsl 54 7 [])),(1,fD 31 3 2),(2,lD 32 1 31),(3,fD 33 1 3),(4,lD 34 1 33),(5,oP 35 (.slv 7 (.t 32) none (some (.t 34)))),(6,oP 36 (.app 54 7 (.t 30) (.t 35))),(7,fD 37 3 2),(8,lD 38 1 37),(9,fD 39 1 3),(10,lD 40 1 39),(11,oP 41 (.bin .add (.t 40) (.c (.int .i64 1)))),(12,oP 42 (.slv 7 (.t 38) (some (.t 41)) none)),(13,oP 43 (.app 54 7 (.t 36) (.t 42))),(14,fD 44 3 2),(15,nP (.sto 1 (.t 44) (.t 43)))]) (.seq (sR [fD 45 0 3,lD 46 1 45,oP 47 (.bin .eql (.t 46) (.c (.int .i64 4)))] (.cond (.t 47) (sR [lA 48 4 2,nP (.sto 4 (.t 4) (.t 48))] .ret) .skip)) (sR [lA 50 4 2,lA 51 7 5,oP 52 (.call 132 [.t 50,.t 51]),mV 49 52,eX 53 49 0,eX 54 49 1,eX 55 49 2,oP 6 (.alloc 33 [.nils,.nils,.nils,.nils]),oP 7 (.alloc 54 [i0,i0,i0,i0,i0,i0,s0]),nP (.sto 4 (.t 6) (.t 53)),nP (.sto 7 (.t 7) (.t 54)),mV 8 55] (sR [lA 56 4 6,lA 57 7 7,mV 58 8,oP 59 (.call 81 [.t 56,.t 57,.t 58]),nP (.sto 4 (.t 4) (.t 59))] .ret)))))))
theorem dg82:Dg Tryz.prog 82 Tryz.f82 ic82 [(.cell 4 4 true)]:=⟨Tryz.func82,by kernel_rfl,by kernel_rfl⟩
theorem x82 {X:List (E × E)} (w:M.World) (e:Ev) (hw:WX X w):FnP Tryz.prog G 82 0 [.arr 41 10 (w.convs.map Conv.row),.arr 64 3 (w.door.map.map Pair.row),.arr 46 8 (w.door.flows.map Flw.row),.arr 54 7 (w.nets.map Pk.row)] [.agg [.own 0 w.convs.length,.own 1 w.door.map.length,.own 2 w.door.flows.length,.own 3 w.nets.length],.agg [.int .i64 e.kind,.int .i64 e.a,.int .i64 e.b,.int .i64 e.c,.int .i64 e.pkt.kind,.int .i64 e.pkt.frm.a,.int .i64 e.pkt.frm.p,.int .i64 e.pkt.to.a,.int .i64 e.pkt.to.p,.int .i64 e.pkt.at_,.str e.pkt.text]] (worldA (netR w e.kind e.a)):=by
  refine mP dg82 Tryz.ntmps82 ⟨_,_,rfl,rfl⟩ ?_
  have hnl:=hw.nl
  simp only [ic82,go_sem]
  rw [i64w (by omega)]
  generalize hwi:within e.a 0 ((w.nets.length:Int) - 1)=b
  have hw2:b=true→0≤e.a∧e.a≤(w.nets.length:Int) - 1:=fun h=>M.within_iff.1 (hwi.trans h)
  refine callR (c63 e.a 0 ((w.nets.length:Int) - 1)) rfl rfl ?_
  rw [hwi]
  cases b<;>simp only [go_sem]
  · have hx:netR w e.kind e.a=w:=by simp [netR,hwi]
    rw [hx]
    exact worldRet (c:=1004) 0 1 2 3 (by simp only [go_sem]) (by simp only [go_sem]) (by simp only [go_sem]) (by simp only [go_sem]) (by simp only [go_sem]) (by simp only [go_sem]) (by decide)
  have hw2:=hw2 rfl
  have hil:e.a.toNat<w.nets.length:=by omega
  have hg:w.nets.getD e.a.toNat default=w.nets[e.a.toNat]:=by simp [List.getD,hil]
  have hg2:w.nets[e.a.toNat]?=some w.nets[e.a.toNat]:=List.getElem?_eq_getElem hil
  have hx5:e.kind=5→netR w e.kind e.a=send w (some w.nets[e.a.toNat]):=fun h=>by simp only [netR,hwi,if_true];rw [if_pos h,hg2]
  have hx4:e.kind=4→netR w e.kind e.a={ w with nets:=w.nets.eraseIdx e.a.toNat }:=fun h=>by simp only [netR,hwi,if_true];rw [if_neg (by omega),if_pos h]
  have hx3:e.kind≠5→e.kind≠4→netR w e.kind e.a=send (carry { w with nets:=w.nets.eraseIdx e.a.toNat } w.nets[e.a.toNat]).1 (carry { w with nets:=w.nets.eraseIdx e.a.toNat } w.nets[e.a.toNat]).2:=fun h h'=>by simp only [netR,hwi,if_true];rw [if_neg h,if_neg h',hg2]
  have hpk:=PkP.ofNet hw hg2
  have hwe:=hw.erase e.a.toNat
  have herase:w.nets.eraseIdx e.a.toNat=w.nets.take e.a.toNat++w.nets.drop (e.a.toNat+1):=List.eraseIdx_eq_take_drop_succ _ _
  generalize hp:w.nets[e.a.toNat]=p at *
  have rv1:rowV 7 3 0 (e.a.toNat - 0) (.arr 54 7 (w.nets.map Pk.row))=some ((w.nets.take e.a.toNat).map Pk.row,[3]):=by
    rw [rowV_a (by simp;omega)];simp [List.map_take]
  have rv2:rowV 7 3 (e.a+1).toNat (w.nets.length - (e.a+1).toNat) (.arr 54 7 (w.nets.map Pk.row))=some ((w.nets.drop (e.a.toNat+1)).map Pk.row,[3]):=by
    rw [rowV_a (by simp;omega)]
    have:(e.a+1).toNat=e.a.toNat+1:=by omega
    rw [this,← List.map_drop,← List.map_take,List.take_of_length_le (by simp)]
  with_reducible repeat' (first|refine br ?_ ?_<;>intro h e<;>(try simp only [e,go_sem,getD_mp hil,hg,hp,rowO_view,rv1,rv2,List.length_take,List.length_drop])<;>clear e|rw [i64w (by omega)]|refine sd ?_<;>try simp only [go_sem,getD_mp hil,hg,hp,rowO_view,rv1,rv2,List.length_take,List.length_drop]|fail)
  · have c5:=c81 w p true (by omega)
    simp only [cond_true] at c5
    rw [hx5 h]
    refine callU c5 [0,1,2,3] [] 29 4 (by simp only [go_sem];first|done|simp) (by simp only [go_sem];first|done|simp) (by simp) (by simp) (by rintro _ _ ⟨rfl,rfl⟩;simp) (by intro i hi;rcases (show i=0∨i=1∨i=2∨i=3 by omega) with rfl|rfl|rfl|rfl<;>simp only [go_sem]) ?_
    rintro _ _ ⟨rfl,rfl⟩
    simp only [go_sem]
    with_reducible repeat' (first|refine br ?_ ?_<;>intro h e<;>(try simp only [e,go_sem])<;>clear e|rw [i64w (by omega)]|refine sd ?_<;>try simp only [go_sem]|fail)
    exact worldRet (c:=1004) 102900 102901 102902 102903 (by simp only [go_sem]) (by simp only [go_sem]) (by simp only [go_sem]) (by simp only [go_sem]) (by simp only [go_sem]) (by simp only [go_sem]) (by decide)
  · have hlen:min e.a.toNat w.nets.length+(w.nets.length - (e.a.toNat+1))=(w.nets.eraseIdx e.a.toNat).length:=by rw [herase];simp
    have hrows:(w.nets.take e.a.toNat).map Pk.row++(w.nets.drop (e.a.toNat+1)).map Pk.row=(w.nets.eraseIdx e.a.toNat).map Pk.row:=by rw [herase,List.map_append]
    simp only [hlen,hrows]
    rw [hx4 h]
    exact worldRet (c:=1004) 0 1 2 1043 (by simp only [go_sem]) (by simp only [go_sem]) (by simp only [go_sem]) (by simp only [go_sem]) (by simp only [go_sem]) (by simp only [go_sem]) (by decide)
  · have hlen:min e.a.toNat w.nets.length+(w.nets.length - (e.a.toNat+1))=(w.nets.eraseIdx e.a.toNat).length:=by rw [herase];simp
    have hrows:(w.nets.take e.a.toNat).map Pk.row++(w.nets.drop (e.a.toNat+1)).map Pk.row=(w.nets.eraseIdx e.a.toNat).map Pk.row:=by rw [herase,List.map_append]
    simp only [hlen,hrows]
    rw [hx3 (by assumption) (by assumption)]
    have hk:=(carry_X hwe ⟨hpk,fun hin=>(hw.net p (List.mem_of_getElem? hg2)).c hin⟩).1
    refine callU (x132 { w with nets:=w.nets.eraseIdx e.a.toNat } p hwe hpk) [0,1,2,1043] [] 52 4 (by simp only [go_sem];first|done|simp) (by simp only [go_sem];first|done|simp) (by simp) (by simp) (by rintro _ _ ⟨rfl,rfl⟩;simp) (by intro i hi;rcases (show i=0∨i=1∨i=2∨i=3 by omega) with rfl|rfl|rfl|rfl<;>simp only [go_sem]) ?_
    rintro _ _ ⟨rfl,rfl⟩
    simp only [go_sem]
    with_reducible repeat' (first|refine br ?_ ?_<;>intro h e<;>(try simp only [e,go_sem])<;>clear e|rw [i64w (by omega)]|refine sd ?_<;>try simp only [go_sem]|fail)
    generalize carry { w with nets:=w.nets.eraseIdx e.a.toNat } p=r at *
    obtain ⟨v,o⟩:=r
    simp only at hk
    have hvn:=hk.nl
    simp only [go_sem]
    with_reducible repeat' (first|refine br ?_ ?_<;>intro h e<;>(try simp only [e,go_sem])<;>clear e|rw [i64w (by omega)]|refine sd ?_<;>try simp only [go_sem]|fail)
    refine callU (c81 v (o.getD .zero) o.isSome (by omega)) [105200,105201,105202,105203] [] 59 4 (by simp only [go_sem];first|done|simp) (by simp only [go_sem];first|done|simp) (by simp) (by simp) (by rintro _ _ ⟨rfl,rfl⟩;simp) (by intro i hi;rcases (show i=0∨i=1∨i=2∨i=3 by omega) with rfl|rfl|rfl|rfl<;>simp only [go_sem]) ?_
    rw [opt_b]
    rintro _ _ ⟨rfl,rfl⟩
    simp only [go_sem]
    with_reducible repeat' (first|refine br ?_ ?_<;>intro h e<;>(try simp only [e,go_sem])<;>clear e|rw [i64w (by omega)]|refine sd ?_<;>try simp only [go_sem]|fail)
    exact worldRet (c:=1004) 105900 105901 105902 105903 (by simp only [go_sem]) (by simp only [go_sem]) (by simp only [go_sem]) (by simp only [go_sem]) (by simp only [go_sem]) (by simp only [go_sem]) (by decide)
def ic37:IC:=sR [oP 2 (.box 33 (.t 0)),oP 3 (.box 56 (.t 1)),oP 4 (.alloc 33 [.nils,.nils,.nils,.nils])] (.seq (sR [fD 7 0 3,lD 8 1 7] (.block 0 (.seq (sR [oP 10 (.bin .eql (.t 8) (.c (.int .i64 1))),mV 9 10] (.cond (.t 9) .skip (.reg [oP 11 (.bin .eql (.t 8) (.c (.int .i64 2))),mV 9 11]))) (.cond (.t 9) (sR [lA 13 4 2,lA 14 11 3,oP 15 (.call 80 [.t 13,.t 14]),mV 12 15,eX 16 12 0,eX 17 12 1,oP 5 (.alloc 54 [i0,i0,i0,i0,i0,i0,s0]),nP (.sto 7 (.t 5) (.t 16)),mV 6 17] (sR [lA 18 4 2,lA 19 7 5,mV 20 6,oP 21 (.call 81 [.t 18,.t 19,.t 20]),nP (.sto 4 (.t 4) (.t 21))] .ret)) (.seq (sR [oP 23 (.bin .eql (.t 8) (.c (.int .i64 3))),mV 22 23] (.cond (.t 22) .skip (sR [oP 24 (.bin .eql (.t 8) (.c (.int .i64 4))),mV 22 24] (.cond (.t 22) .skip (.reg [oP 25 (.bin .eql (.t 8) (.c (.int .i64 5))),mV 22 25]))))) (.cond (.t 22) (sR [lA 26 4 2,lA 27 11 3,oP 28 (.call 82 [.t 26,.t 27]),nP (.sto 4 (.t 4) (.t 28))] .ret) (sR [oP 30 (.bin .eql (.t 8) (.c (.int .i64 6))),mV 29 30] (.cond (.t 29) (.seq (.drw [0,0,2,0,0,16,56,127,255] [(0,lA 31 4 2),(1,fD 32 4 3),(2,lA 33 7 32),(3,lA 34 4 2),(4,fD 35 4 3),(5,lA 36 7 35),(6,oP 37 (.call 83 [.t 34,.t 36])),(7,oP 38 (.call 81 [.t 31,.t 33,.t 37])),(8,nP (.sto 4 (.t 4) (.t 38)))]) .ret) .skip)))))))) (sR [lA 39 4 2,nP (.sto 4 (.t 4) (.t 39))] .ret))
theorem dg37:Dg Tryz.prog 37 Tryz.f37 ic37 [(.cell 4 4 true)]:=⟨Tryz.func37,by kernel_rfl,by kernel_rfl⟩
theorem x37 {X:List (E × E)} (w:M.World) (e:Ev) (hw:WX X w) (ht:e.pkt.text.length≤2000000):FnP Tryz.prog G 37 0 [.arr 41 10 (w.convs.map Conv.row),.arr 64 3 (w.door.map.map Pair.row),.arr 46 8 (w.door.flows.map Flw.row),.arr 54 7 (w.nets.map Pk.row)] [.agg [.own 0 w.convs.length,.own 1 w.door.map.length,.own 2 w.door.flows.length,.own 3 w.nets.length],.agg [.int .i64 e.kind,.int .i64 e.a,.int .i64 e.b,.int .i64 e.c,.int .i64 e.pkt.kind,.int .i64 e.pkt.frm.a,.int .i64 e.pkt.frm.p,.int .i64 e.pkt.to.a,.int .i64 e.pkt.to.p,.int .i64 e.pkt.at_,.str e.pkt.text]] (worldA (wDo w e)):=by
  refine mP dg37 Tryz.ntmps37 ⟨_,_,rfl,rfl⟩ ?_
  have hnl:=hw.nl
  have hcl:=hw.cl
  have hml:=(mapOk_ports (doorOk_iff.1 hw.door).1).2
  have hB:∀ c∈w.convs,c.up.length≤2000000∧c.down.length≤2000000:=fun c hc=>by
    have hb:=convOk_B (hw.cv c hc)
    have h1:=hb.up
    have h2:=hb.down
    omega
  simp only [ic37,go_sem]
  with_reducible repeat' (first|refine br ?_ ?_<;>intro h e<;>(try simp only [e,go_sem])<;>clear e|rw [i64w (by omega)]|refine sd ?_<;>try simp only [go_sem]|fail)
  · refine callF (c80 w e (by omega) (by omega) hB) [0,1,2,3] false (by simp only [go_sem];first|done|simp [E.row,Pc.row,Pair.row,Part.row,Flw.row,Pk.row,Conv.row]) (by simp only [List.mem_cons,List.not_mem_nil,or_false];rintro c (rfl|rfl|rfl|rfl)<;>simp only [go_sem]) rfl (.inr rfl) ?_
    have hx:wDo w e=send w (sayW w (decide (e.kind=1)) e.a e.b e.c):=by simp [wDo,h]
    rw [hx]
    generalize sayW w (decide (e.kind=1)) e.a e.b e.c=o
    simp only [go_sem]
    with_reducible repeat' (first|refine br ?_ ?_<;>intro h e<;>(try simp only [e,go_sem])<;>clear e|rw [i64w (by omega)]|refine sd ?_<;>try simp only [go_sem]|fail)
    refine callU (c81 w (o.getD .zero) o.isSome (by omega)) [0,1,2,3] [] 21 4 (by simp only [go_sem];first|done|simp) (by simp only [go_sem];first|done|simp) (by simp) (by simp) (by rintro _ _ ⟨rfl,rfl⟩;simp) (by intro i hi;rcases (show i=0∨i=1∨i=2∨i=3 by omega) with rfl|rfl|rfl|rfl<;>simp only [go_sem]) ?_
    rw [opt_b]
    rintro _ _ ⟨rfl,rfl⟩
    simp only [go_sem]
    with_reducible repeat' (first|refine br ?_ ?_<;>intro h e<;>(try simp only [e,go_sem])<;>clear e|rw [i64w (by omega)]|refine sd ?_<;>try simp only [go_sem]|fail)
    exact worldRet (c:=1004) 102100 102101 102102 102103 (by simp only [go_sem]) (by simp only [go_sem]) (by simp only [go_sem]) (by simp only [go_sem]) (by simp only [go_sem]) (by simp only [go_sem]) (by decide)
  · refine callF (c80 w e (by omega) (by omega) hB) [0,1,2,3] false (by simp only [go_sem];first|done|simp [E.row,Pc.row,Pair.row,Part.row,Flw.row,Pk.row,Conv.row]) (by simp only [List.mem_cons,List.not_mem_nil,or_false];rintro c (rfl|rfl|rfl|rfl)<;>simp only [go_sem]) rfl (.inr rfl) ?_
    have hx:wDo w e=send w (sayW w (decide (e.kind=1)) e.a e.b e.c):=by simp [wDo,h]
    rw [hx]
    generalize sayW w (decide (e.kind=1)) e.a e.b e.c=o
    simp only [go_sem]
    with_reducible repeat' (first|refine br ?_ ?_<;>intro h e<;>(try simp only [e,go_sem])<;>clear e|rw [i64w (by omega)]|refine sd ?_<;>try simp only [go_sem]|fail)
    refine callU (c81 w (o.getD .zero) o.isSome (by omega)) [0,1,2,3] [] 21 4 (by simp only [go_sem];first|done|simp) (by simp only [go_sem];first|done|simp) (by simp) (by simp) (by rintro _ _ ⟨rfl,rfl⟩;simp) (by intro i hi;rcases (show i=0∨i=1∨i=2∨i=3 by omega) with rfl|rfl|rfl|rfl<;>simp only [go_sem]) ?_
    rw [opt_b]
    rintro _ _ ⟨rfl,rfl⟩
    simp only [go_sem]
    with_reducible repeat' (first|refine br ?_ ?_<;>intro h e<;>(try simp only [e,go_sem])<;>clear e|rw [i64w (by omega)]|refine sd ?_<;>try simp only [go_sem]|fail)
    exact worldRet (c:=1004) 102100 102101 102102 102103 (by simp only [go_sem]) (by simp only [go_sem]) (by simp only [go_sem]) (by simp only [go_sem]) (by simp only [go_sem]) (by simp only [go_sem]) (by decide)
  · rw [netR_is w e (.inl h)]
    refine callU (x82 w e hw) [0,1,2,3] [] 28 4 (by simp only [go_sem];first|done|simp) (by simp only [go_sem];first|done|simp) (by simp) (by simp) (by rintro _ _ ⟨rfl,rfl⟩;simp) (by intro i hi;rcases (show i=0∨i=1∨i=2∨i=3 by omega) with rfl|rfl|rfl|rfl<;>simp only [go_sem]) ?_
    rintro _ _ ⟨rfl,rfl⟩
    simp only [go_sem]
    with_reducible repeat' (first|refine br ?_ ?_<;>intro h e<;>(try simp only [e,go_sem])<;>clear e|rw [i64w (by omega)]|refine sd ?_<;>try simp only [go_sem]|fail)
    exact worldRet (c:=1004) 102800 102801 102802 102803 (by simp only [go_sem]) (by simp only [go_sem]) (by simp only [go_sem]) (by simp only [go_sem]) (by simp only [go_sem]) (by simp only [go_sem]) (by decide)
  · rw [netR_is w e (.inr (.inl h))]
    refine callU (x82 w e hw) [0,1,2,3] [] 28 4 (by simp only [go_sem];first|done|simp) (by simp only [go_sem];first|done|simp) (by simp) (by simp) (by rintro _ _ ⟨rfl,rfl⟩;simp) (by intro i hi;rcases (show i=0∨i=1∨i=2∨i=3 by omega) with rfl|rfl|rfl|rfl<;>simp only [go_sem]) ?_
    rintro _ _ ⟨rfl,rfl⟩
    simp only [go_sem]
    with_reducible repeat' (first|refine br ?_ ?_<;>intro h e<;>(try simp only [e,go_sem])<;>clear e|rw [i64w (by omega)]|refine sd ?_<;>try simp only [go_sem]|fail)
    exact worldRet (c:=1004) 102800 102801 102802 102803 (by simp only [go_sem]) (by simp only [go_sem]) (by simp only [go_sem]) (by simp only [go_sem]) (by simp only [go_sem]) (by simp only [go_sem]) (by decide)
  · rw [netR_is w e (.inr (.inr h))]
    refine callU (x82 w e hw) [0,1,2,3] [] 28 4 (by simp only [go_sem];first|done|simp) (by simp only [go_sem];first|done|simp) (by simp) (by simp) (by rintro _ _ ⟨rfl,rfl⟩;simp) (by intro i hi;rcases (show i=0∨i=1∨i=2∨i=3 by omega) with rfl|rfl|rfl|rfl<;>simp only [go_sem]) ?_
    rintro _ _ ⟨rfl,rfl⟩
    simp only [go_sem]
    with_reducible repeat' (first|refine br ?_ ?_<;>intro h e<;>(try simp only [e,go_sem])<;>clear e|rw [i64w (by omega)]|refine sd ?_<;>try simp only [go_sem]|fail)
    exact worldRet (c:=1004) 102800 102801 102802 102803 (by simp only [go_sem]) (by simp only [go_sem]) (by simp only [go_sem]) (by simp only [go_sem]) (by simp only [go_sem]) (by simp only [go_sem]) (by decide)
  · have hx:wDo w e=send w (bif stranger w e.pkt then some e.pkt else none):=by
      simp only [wDo,h]
      cases stranger w e.pkt<;>simp [send]
    rw [hx]
    refine callF (c83 w e.pkt (by omega) ht) [0,1,2,3] false (by simp only [go_sem];first|done|simp [E.row,Pc.row,Pair.row,Part.row,Flw.row,Pk.row,Conv.row]) (by simp only [List.mem_cons,List.not_mem_nil,or_false];rintro c (rfl|rfl|rfl|rfl)<;>simp only [go_sem]) rfl (.inr rfl) ?_
    generalize stranger w e.pkt=o
    simp only [go_sem]
    with_reducible repeat' (first|refine br ?_ ?_<;>intro h e<;>(try simp only [e,go_sem])<;>clear e|rw [i64w (by omega)]|refine sd ?_<;>try simp only [go_sem]|fail)
    refine callU (c81 w e.pkt o (by omega)) [0,1,2,3] [] 38 4 (by simp only [go_sem];first|done|simp) (by simp only [go_sem];first|done|simp) (by simp) (by simp) (by rintro _ _ ⟨rfl,rfl⟩;simp) (by intro i hi;rcases (show i=0∨i=1∨i=2∨i=3 by omega) with rfl|rfl|rfl|rfl<;>simp only [go_sem]) ?_
    rintro _ _ ⟨rfl,rfl⟩
    simp only [go_sem]
    with_reducible repeat' (first|refine br ?_ ?_<;>intro h e<;>(try simp only [e,go_sem])<;>clear e|rw [i64w (by omega)]|refine sd ?_<;>try simp only [go_sem]|fail)
    exact worldRet (c:=1004) 103800 103801 103802 103803 (by simp only [go_sem]) (by simp only [go_sem]) (by simp only [go_sem]) (by simp only [go_sem]) (by simp only [go_sem]) (by simp only [go_sem]) (by decide)
  · have hx:wDo w e=w:=by simp only [wDo];simp [*]
    rw [hx]
    exact worldRet (c:=1004) 0 1 2 3 (by simp only [go_sem]) (by simp only [go_sem]) (by simp only [go_sem]) (by simp only [go_sem]) (by simp only [go_sem]) (by simp only [go_sem]) (by decide)
theorem c37 (w:M.World) (e:Ev) (hw:WI w) (ht:e.pkt.text.length≤2000000):FnP Tryz.prog G 37 0 [.arr 41 10 (w.convs.map Conv.row),.arr 64 3 (w.door.map.map Pair.row),.arr 46 8 (w.door.flows.map Flw.row),.arr 54 7 (w.nets.map Pk.row)] [.agg [.own 0 w.convs.length,.own 1 w.door.map.length,.own 2 w.door.flows.length,.own 3 w.nets.length],.agg [.int .i64 e.kind,.int .i64 e.a,.int .i64 e.b,.int .i64 e.c,.int .i64 e.pkt.kind,.int .i64 e.pkt.frm.a,.int .i64 e.pkt.frm.p,.int .i64 e.pkt.to.a,.int .i64 e.pkt.to.p,.int .i64 e.pkt.at_,.str e.pkt.text]] (worldA (wDo w e)) :=
  x37 w e hw.x ht
def ic52:IC:=sR [oP 2 (.mv (.c (.bool false)))] (.seq (sR [oP 3 (.mv (.c i0))] (.block 0 (.loop (.seq (sR [mV 5 3,mV 6 0,oP 7 (.len (.t 6)),bN 8 .lss 5 7] (.cond (.t 8) .skip (.exit 0))) (.seq (.block 1 (.seq (sR [oP 4 (.mv (.c i0))] (.block 2 (.loop (.seq (sR [mV 11 4,mV 12 3,bN 13 .lss 11 12] (.cond (.t 13) .skip (.exit 2))) (.seq (.block 3 (.seq (.drw [0,0,3,7,15,0,0,96,224,480,1023,2047,4095,4095,16383,32767,65535,4095,4095,397311,921599,1970175,4194303,8388607] [(0,mV 16 0),(1,mV 17 4),(2,oP 18 (.iad 10 (.t 16) (.t 17))),(3,fD 19 0 18),(4,lA 20 2 19),(5,mV 21 0),(6,mV 22 3),(7,oP 23 (.iad 10 (.t 21) (.t 22))),(8,fD 24 0 23),(9,lA 25 2 24),(10,oP 26 (.eqs false [.i,.i] (.t 20) (.t 25))),(11,mV 27 26),(12,⟨some 28,some (27,false),.mv (.t 0)⟩),(13,⟨some 29,some (27,false),.mv (.t 4)⟩),(14,⟨some 30,some (27,false),.iad 10 (.t 28) (.t 29)⟩),(15,⟨some 31,some (27,false),.fad 2 (.t 30)⟩),(16,⟨some 32,some (27,false),.ld 2 true (.t 31)⟩),(17,⟨some 33,some (27,false),.mv (.t 0)⟩),(18,⟨some 34,some (27,false),.mv (.t 3)⟩),(19,⟨some 35,some (27,false),.iad 10 (.t 33) (.t 34)⟩),(20,⟨some 36,some (27,false),.fad 2 (.t 35)⟩),(21,⟨some 37,some (27,false),.ld 2 true (.t 36)⟩),(22,⟨some 38,some (27,false),.eqs false [.i,.i] (.t 32) (.t 37)⟩),(23,oP 39 (.pick (.t 27) (.c (.bool true)) (.t 38)))]) (.cond (.t 39) (sR [oP 2 (.mv (.c (.bool false)))] .ret) .skip))) (.reg [mV 14 4,oP 15 (.bin .add (.t 14) (.c (.int .i64 1))),mV 4 15])))))) (sR [mV 40 0,mV 41 3,oP 42 (.iad 10 (.t 40) (.t 41)),lA 43 10 42,oP 44 (.call 106 [.t 43]),oP 45 (.un .not (.t 44))] (.cond (.t 45) (sR [oP 2 (.mv (.c (.bool false)))] .ret) .skip)))) (.reg [mV 9 3,oP 10 (.bin .add (.t 9) (.c (.int .i64 1))),mV 3 10])))))) (sR [mV 46 0,oP 47 (.len (.t 46)),oP 48 (.bin .leq (.t 47) (.c (.int .i64 2))),mV 2 48] .ret))
theorem dg52:Dg Tryz.prog 52 Tryz.f52 ic52 [(.t 2)]:=⟨Tryz.func52,by kernel_rfl,by kernel_rfl⟩
theorem c52 (cs:List Conv) (hl:cs.length≤2000000) (hB:∀ c∈cs,(c.up.length≤2000000∧c.down.length≤2000000)∧c.upGot.length≤2000000∧c.downGot.length≤2000000):FnR Tryz.prog G 52 [.sl 10 (cs.map Conv.row)] (.bool (together cs)):=by
  refine mF dg52 Tryz.ntmps52 ?_
  simp only [ic52,go_sem]
  refine loopN (fun i:Nat=>⟨getL [(0,.sl 10 (cs.map Conv.row)),(3,.int .i64 (i:Int))],getH []⟩) (fun i=>cs.length - i) (fun i=>i≤cs.length∧∀ j,j<i→okConv cs j=true) 0 (leQ []) ⟨Nat.zero_le _,by omega⟩ ?_
  intro i ⟨hi,ha⟩
  simp only [go_sem]
  by_cases h:(i:Int)<cs.length
  · have hil:i<cs.length:=by omega
    have hg:cs.getD i default=cs[i]:=by simp [List.getD,hil]
    have hok:=okConv_i hil
    obtain ⟨⟨b1,b2⟩,b3,b4⟩:=hB _ (List.getElem_mem hil)
    simp only [eq_true h,go_sem]
    refine loopN (fun k:Nat=>⟨getL [(0,.sl 10 (cs.map Conv.row)),(3,.int .i64 (i:Int)),(4,.int .i64 (k:Int))],getH []⟩) (fun k=>i - k) (fun k=>k≤i∧(cs.take k).any (fun o=>decide (o.ins=cs[i].ins) || decide (o.out=cs[i].out))=false) 0 (leQ []) ⟨Nat.zero_le _,by simp⟩ ?_
    intro k ⟨hk,hka⟩
    simp only [go_sem]
    by_cases h2:(k:Int)<i
    · have hkl:k<cs.length:=by omega
      have hgk:cs.getD k default=cs[k]:=by simp [List.getD,hkl]
      simp only [eq_true h2,go_sem]
      have bad:(cs[k].ins=cs[i].ins∨cs[k].out=cs[i].out)→together cs=false:=fun hb=>okConv_b hil (by
        have:(cs.take i).any (fun o=>decide (o.ins=cs[i].ins) || decide (o.out=cs[i].out))=true:=List.any_eq_true.2 ⟨cs[k],List.mem_iff_getElem?.2 ⟨k,by rw [List.getElem?_take,if_pos (by omega)];exact List.getElem?_eq_getElem hkl⟩,by simpa using hb⟩
        rw [hok,this];simp)
      with_reducible repeat' (first|refine br ?_ ?_<;>intro h e<;>(try simp only [e,go_sem,hg,hgk,E.ext_iff'])<;>clear e|rw [i64w (by omega)]|refine sd ?_<;>try simp only [go_sem,hg,hgk,E.ext_iff']|fail)
      · exact bad (.inl (by assumption))
      · exact bad (.inr (by assumption))
      · refine ⟨k+1,by omega,⟨by omega, ?_⟩,(leQ [])⟩
        rw [List.take_add_one,List.getElem?_eq_getElem hkl]
        simp only [Option.toList_some,List.any_append,hka,List.any_cons,List.any_nil,Bool.or_false,Bool.false_or,Bool.or_eq_false_iff,decide_eq_false_iff_not]
        exact ⟨by assumption,by assumption⟩
    · simp only [eq_false h2,go_sem]
      obtain rfl:k=i:=by omega
      have c1:=c106 cs[k] b1 b2 b3 b4
      with_reducible repeat' (first|refine br ?_ ?_<;>intro h e<;>(try simp only [e,go_sem,hg])<;>clear e|rw [i64w (by omega)]|refine sd ?_<;>try simp only [go_sem,hg]|(first|refine cr (c1 ..) ?_)<;>try simp only [go_sem,hg]|fail)
      · refine ⟨k+1,by omega,⟨by omega,fun j hj=>?_⟩,(leQ [])⟩
        rcases Nat.lt_or_ge j k with hjk|hjk
        · exact ha j hjk
        · obtain rfl:j=k:=by omega
          rw [hok,hka];simp [*]
      · exact okConv_b hil (by rw [hok];simp [*])
  · simp only [eq_false h,go_sem]
    have:i=cs.length:=by omega
    subst this
    with_reducible repeat' (first|refine br ?_ ?_<;>intro h e<;>(try simp only [e,go_sem])<;>clear e|rw [i64w (by omega)]|refine sd ?_<;>try simp only [go_sem]|fail)
    have h1:=together_iff (cs:=cs)
    by_cases h2:cs.length≤2
    · rw [h1.2 ⟨h2,ha⟩];exact (decide_eq_true (by omega)).symm
    · have:together cs=false:=by
        cases ht:together cs with
        | false=>rfl
        | true=>exact absurd (h1.1 ht).1 h2
      rw [this];exact (decide_eq_false (by omega)).symm
def newA (o:Option M.World) (r:V) (out:List Hs):Prop:=(∃ w,o=some w∧r=.tup [.agg [.own 0 w.convs.length,.own 1 w.door.map.length,.own 2 w.door.flows.length,.own 3 w.nets.length],.bool true]∧out=[.arr 41 10 (w.convs.map Conv.row),.arr 64 3 (w.door.map.map Pair.row),.arr 46 8 (w.door.flows.map Flw.row),.arr 54 7 (w.nets.map Pk.row)])∨(o=none∧r=.tup [.agg [.nils,.nils,.nils,.nils],.bool false]∧out=[])
theorem newA_ex (o:Option M.World):∃ r out,newA o r out:=by
  cases o with
  | none=>exact ⟨_,_,.inr ⟨rfl,rfl,rfl⟩⟩
  | some w=>exact ⟨_,_,.inl ⟨w,rfl,rfl,rfl⟩⟩
theorem newConvs_cons (c:Conv) (cs:List Conv):newConvs (c :: cs)=match convNew c.ins c.out c.up c.down with
    | some n=>(newConvs cs).map (n :: ·)
    | none=>none:=by
  simp only [newConvs]
  cases convNew c.ins c.out c.up c.down<;>cases newConvs cs<;>rfl
theorem convNew_is {i o:E} {up down:B} {n:Conv} (h:convNew i o up down=some n):n=⟨i,o,up,down,0,0,[],[]⟩:=by
  unfold convNew at h
  split at h<;>cases h
  rfl
theorem newRet {pin:Nat} {o:Option M.World} {l:List (Nat × V)} {mm:List (Nat × Hs)} {d c e:Nat} (ho:o=none) (h2:getL l d=.pv c 0) (h3:getL l e=.bool false) (m2:getH mm c=.var 33 [.nils,.nils,.nils,.nils]) :
    retQ [.cell d 4 true,.t e] 0 (newA o) .ret ⟨getL l,getH mm⟩:=by
  refine retN (.tup [.agg [.nils,.nils,.nils,.nils],.bool false]) [] [] ?_ (.inr ⟨ho,rfl,rfl⟩) (by simp only [go_sem]) (by simp [argH]) (by simp only [go_sem])
  simp only [go_sem,h2,h3,m2]
theorem newRet1 {o:Option M.World} {w:M.World} {l:List (Nat × V)} {mm:List (Nat × Hs)} {d c e:Nat} (n0 n1 n2 n3:Nat) (ho:o=some w) (h4:getL l d=.pv c 0) (h5:getL l e=.bool true)
    (m4:getH mm c=.var 33 [.own n0 w.convs.length,.own n1 w.door.map.length,.own n2 w.door.flows.length,.own n3 w.nets.length])
    (m0:getH mm n0=.arr 41 10 (w.convs.map Conv.row)) (m1:getH mm n1=.arr 64 3 (w.door.map.map Pair.row)) (m2:getH mm n2=.arr 46 8 (w.door.flows.map Flw.row)) (m3:getH mm n3=.arr 54 7 (w.nets.map Pk.row))
    (hne:[n0,n1,n2,n3].Nodup):retQ [.cell d 4 true,.t e] 0 (newA o) .ret ⟨getL l,getH mm⟩:=by
  refine retN (.tup [.agg [.own 0 w.convs.length,.own 1 w.door.map.length,.own 2 w.door.flows.length,.own 3 w.nets.length],.bool true]) [.arr 41 10 (w.convs.map Conv.row),.arr 64 3 (w.door.map.map Pair.row),.arr 46 8 (w.door.flows.map Flw.row),.arr 54 7 (w.nets.map Pk.row)] [(0,n0),(1,n1),(2,n2),(3,n3)] ?_ (.inl ⟨w,ho,rfl,rfl⟩) ?_ (by simpa [argH,getN] using hne) (by simp only [go_sem])
  · simp only [go_sem,h4,h5,m4]
  · simp only [go_sem,m0,m1,m2,m3]
def ic36:IC:=sR [oP 2 (.alloc 33 [.nils,.nils,.nils,.nils]),oP 3 (.mv (.c (.bool false)))] (sR [oP 8 (.bsl 41 10 []),oP 9 (.bsl 64 3 []),oP 10 (.bsl 46 8 []),oP 11 (.build [.nils,.nils] [(0,(1,.t 9)),(1,(1,.t 10))]),oP 12 (.bsl 54 7 []),oP 13 (.build [.nils,.nils,.nils,.nils] [(0,(1,.t 8)),(1,(2,.t 11)),(3,(1,.t 12))]),oP 4 (.alloc 33 [.nils,.nils,.nils,.nils]),nP (.sto 4 (.t 4) (.t 13))] (.seq (sR [oP 5 (.mv (.c i0))] (.block 0 (.loop (.seq (sR [mV 14 5,mV 15 0,oP 16 (.len (.t 15)),bN 17 .lss 14 16] (.cond (.t 17) .skip (.exit 0))) (.seq (.block 1 (.seq (.drw [0,0,3,7,15,0,0,96,224,480,0,0,3072,7168,15360,0,0,98304,229376,491520,1048575,2097151,4194303,4194303,0,25165823,67108863] [(0,mV 21 0),(1,mV 22 5),(2,oP 23 (.iad 10 (.t 21) (.t 22))),(3,fD 24 0 23),(4,lA 25 2 24),(5,mV 26 0),(6,mV 27 5),(7,oP 28 (.iad 10 (.t 26) (.t 27))),(8,fD 29 2 28),(9,lA 30 2 29),(10,mV 31 0),(11,mV 32 5),(12,oP 33 (.iad 10 (.t 31) (.t 32))),(13,fD 34 4 33),(14,lD 35 1 34),(15,mV 36 0),(16,mV 37 5),(17,oP 38 (.iad 10 (.t 36) (.t 37))),(18,fD 39 5 38),(19,lD 40 1 39),(20,oP 41 (.call 79 [.t 25,.t 30,.t 35,.t 40])),(21,mV 20 41),(22,eX 42 20 0),(23,eX 43 20 1),(24,oP 6 (.alloc 41 [i0,i0,i0,i0,s0,s0,i0,i0,s0,s0])),(25,nP (.sto 10 (.t 6) (.t 42))),(26,mV 7 43)]) (.seq (sR [mV 44 7,oP 45 (.un .not (.t 44))] (.cond (.t 45) (sR [oP 46 (.build [.nils,.nils,.nils,.nils] []),nP (.sto 4 (.t 2) (.t 46)),oP 3 (.mv (.c (.bool false)))] .ret) .skip)) (.reg [fD 47 0 4,lD 48 1 47,lA 49 10 6,oP 50 (.bsl 41 10 [.t 49]),oP 51 (.app 41 10 (.t 48) (.t 50)),fD 52 0 4,nP (.sto 1 (.t 52) (.t 51))])))) (.reg [mV 18 5,oP 19 (.bin .add (.t 18) (.c (.int .i64 1))),mV 5 19])))))) (.seq (sR [fD 53 0 4,lD 54 1 53,oP 55 (.call 52 [.t 54]),oP 56 (.un .not (.t 55))] (.cond (.t 56) (sR [oP 57 (.build [.nils,.nils,.nils,.nils] []),nP (.sto 4 (.t 2) (.t 57)),oP 3 (.mv (.c (.bool false)))] .ret) .skip)) (sR [lA 58 4 4,nP (.sto 4 (.t 2) (.t 58)),oP 3 (.mv (.c (.bool true)))] .ret))))
theorem dg36:Dg Tryz.prog 36 Tryz.f36 ic36 [(.cell 2 4 true),(.t 3)]:=⟨Tryz.func36,by kernel_rfl,by kernel_rfl⟩
theorem c36 (cs:List Conv) (hl:cs.length≤1000000) (hB:∀ c∈cs,c.up.length≤2000000∧c.down.length≤2000000):FnP Tryz.prog G 36 0 [] [.sl 10 (cs.map Conv.row)] (newA (worldNew cs)):=by
  refine mP dg36 Tryz.ntmps36 (newA_ex _) ?_
  simp only [ic36,go_sem]
  refine loopN (fun a:Nat × List Conv=>⟨getL [(0,.sl 10 (cs.map Conv.row)),(2,.pv 1002 0),(4,.pv 1004 0),(5,.int .i64 (a.1:Int))],getH [(1002,.var 33 [.nils,.nils,.nils,.nils]),(1004,.var 33 [.own 1008 a.2.length,.own 1009 0,.own 1010 0,.own 1012 0]),(1008,.arr 41 10 (a.2.map Conv.row)),(1009,.arr 64 3 []),(1010,.arr 46 8 []),(1012,.arr 54 7 [])]⟩)
    (fun a=>cs.length - a.1) (fun a=>a.1≤cs.length∧a.2.length=a.1∧newConvs cs=(newConvs (cs.drop a.1)).map (a.2++·)∧∀ c∈a.2,(c.up.length≤2000000∧c.down.length≤2000000)∧c.upGot.length≤2000000∧c.downGot.length≤2000000) (0,[]) (leQ []) ⟨Nat.zero_le _,rfl,by simp,by simp⟩ ?_
  intro ⟨i,ns⟩ ⟨hi,hnl,hnc,hnB⟩
  simp only at hi hnl hnc hnB
  simp only [go_sem]
  by_cases h:(i:Int)<cs.length
  · have hil:i<cs.length:=by omega
    have hg:cs.getD i default=cs[i]:=by simp [List.getD,hil]
    obtain ⟨b1,b2⟩:=hB _ (List.getElem_mem hil)
    rw [List.drop_eq_getElem_cons hil,newConvs_cons] at hnc
    have c1:=c79 cs[i].ins cs[i].out cs[i].up cs[i].down b1 b2
    simp only [eq_true h,go_sem]
    with_reducible repeat' (first|refine br ?_ ?_<;>intro h e<;>(try simp only [e,go_sem,hg])<;>clear e|rw [i64w (by omega)]|refine sd ?_<;>try simp only [go_sem,hg]|(first|refine cr (c1 ..) ?_)<;>try simp only [go_sem,hg]|fail)
    · obtain ⟨n,hn⟩:=Option.isSome_iff_exists.1 (by assumption)
      have hni:=convNew_is hn
      simp only [hn,Option.getD_some] at hnc ⊢
      refine ⟨(i+1,ns++[n]),by simp only;omega,⟨by simp only;omega,by simp only [List.length_append,List.length_cons,List.length_nil];omega, ?_, ?_⟩,leN [(1008,1051)] ?_ ?_ (by simp [getN]) (by simp only [go_sem])⟩
      · simp only
        rw [hnc]
        cases newConvs (cs.drop (i+1))<;>simp
      · intro c hc
        rcases List.mem_append.1 hc with hc|hc
        · exact hnB c hc
        · simp only [List.mem_singleton] at hc
          subst hc
          rw [hni]
          exact ⟨⟨b1,b2⟩,by simp,by simp⟩
      · simp only [go_sem];simp
      · simp only [go_sem];simp [Conv.row]
    · refine newRet (pin:=0) (c:=1002) ?_ (by simp only [go_sem]) (by simp only [go_sem]) (by simp only [go_sem])
      have hn:convNew cs[i].ins cs[i].out cs[i].up cs[i].down=none:=by simpa using h
      rw [hn] at hnc
      simp only [Option.map_none] at hnc
      simp [worldNew,hnc]
  · simp only [eq_false h,go_sem]
    have:i=cs.length:=by omega
    subst this
    rw [List.drop_length] at hnc
    simp only [newConvs,Option.map_some,List.append_nil] at hnc
    refine callF (c52 ns (by omega) hnB) [1008] false (by simp only [go_sem];first|done|simp [E.row,Pc.row,Pair.row,Part.row,Flw.row,Pk.row,Conv.row]) (by simp only [List.mem_singleton];rintro c rfl;rfl) rfl (.inr rfl) ?_
    simp only [go_sem]
    cases ht:together ns<;>simp only [go_sem]
    · refine newRet (pin:=0) (c:=1002) ?_ (by simp only [go_sem]) (by simp only [go_sem]) (by simp only [go_sem])
      simp [worldNew,hnc,ht]
    · refine newRet1 (c:=1002) (w:=⟨ns,.zero,[]⟩) 1008 1009 1010 1012 ?_ ?_ ?_ ?_ ?_ ?_ ?_ ?_ (by decide)
      · simp [worldNew,hnc,ht]
      all_goals simp only [go_sem,Door.zero]
def playA (code:B) (p:Int) (r:V) (o:List Hs):Prop:=∃ (p':Int) (cs:List Conv) (es:List Ev) (w:M.World),(p≤p'∧p'≤p+4000)∧CvD cs∧(es.length≤58∧∀ e∈es,e.pkt.text.length≤50)∧(PW w∧1≤w.convs.length) ∧
  r=.tup [.own 1 cs.length,.own 2 es.length,.agg [.own 3 w.convs.length,.own 4 w.door.map.length,.own 5 w.door.flows.length,.own 6 w.nets.length]]∧o=[rdH code p',.arr 41 10 (cs.map Conv.row),.arr 56 11 (es.map Ev.row),.arr 41 10 (w.convs.map Conv.row),.arr 64 3 (w.door.map.map Pair.row),.arr 46 8 (w.door.flows.map Flw.row),.arr 54 7 (w.nets.map Pk.row)]
theorem newConvs_len:∀ {cs ns:List Conv},newConvs cs=some ns→ns.length=cs.length
  | [],ns,h=>by cases h;rfl
  | c :: cs,ns,h=>by
    rw [newConvs_cons] at h
    split at h
    · cases hn:newConvs cs with
      | none=>rw [hn] at h;cases h
      | some m =>
        rw [hn] at h
        simp only [Option.map_some,Option.some.injEq] at h
        subst h
        simp [newConvs_len hn]
    · cases h
theorem cvP (cs:List Conv):((cs.map Conv.row).all fun r=>r.all V.plain0)=true:=by simp [Conv.row,V.plain0]
def conv1:Conv:=⟨⟨1,1⟩,⟨4,4⟩,[64,49,58,49,59,97],[98,64,57,58,49,48,59],0,0,[],[]⟩
theorem world1:∃ w,worldNew [conv1]=some w:=⟨⟨[conv1],.zero,[]⟩,by decide +kernel⟩
theorem wi_acks {w:M.World} (h:WI w):∀ c∈w.convs,(0≤c.upAck∧c.upAck≤1000)∧0≤c.downAck∧c.downAck≤1000:=fun c hc=>by
  have hb:=convOk_B (h.cv c hc)
  have:=hb.upAck
  have:=hb.downAck
  omega
def ic31:IC:=sR [oP 2 (.mv (.c .nils)),oP 3 (.mv (.c .nils)),oP 4 (.alloc 33 [.nils,.nils,.nils,.nils])] (sR [mV 11 0,oP 12 (.call 65 [.t 11]),mV 5 12] (sR [mV 14 5,oP 15 (.call 36 [.t 14]),mV 13 15,eX 16 13 0,eX 17 13 1,oP 6 (.alloc 33 [.nils,.nils,.nils,.nils]),nP (.sto 4 (.t 6) (.t 16)),mV 7 17] (.seq (sR [mV 18 7,oP 19 (.un .not (.t 18))] (.cond (.t 19) (sR [oP 20 (.build [i0,i0] [(0,(1,.c (.int .i64 1))),(1,(1,.c (.int .i64 1)))]),oP 21 (.build [i0,i0] [(0,(1,.c (.int .i64 4))),(1,(1,.c (.int .i64 4)))]),oP 22 (.build [i0,i0,i0,i0,s0,s0,i0,i0,s0,s0] [(0,(2,.t 20)),(2,(2,.t 21)),(4,(1,.c (.str [64,49,58,49,59,97]))),(5,(1,.c (.str [98,64,57,58,49,48,59])))]),oP 23 (.bsl 41 10 [.t 22]),mV 5 23] (.reg [mV 25 5,oP 26 (.call 36 [.t 25]),mV 24 26,eX 27 24 0,eX 28 24 1,nP (.sto 4 (.t 6) (.t 27))])) .skip)) (sR [oP 29 (.bsl 56 11 []),mV 8 29] (.seq (sR [mV 30 0,oP 31 (.call 32 [.t 30,.c (.int .i64 58)]),mV 9 31] (.block 0 (.loop (.seq (sR [mV 32 9,oP 33 (.bin .gtr (.t 32) (.c i0))] (.cond (.t 33) .skip (.exit 0))) (.seq (.block 1 (sR [mV 36 0,lA 37 4 6,oP 38 (.call 49 [.t 36,.t 37]),oP 10 (.alloc 56 [i0,i0,i0,i0,i0,i0,i0,i0,i0,i0,s0]),nP (.sto 11 (.t 10) (.t 38))] (sR [mV 39 8,lA 40 11 10,oP 41 (.bsl 56 11 [.t 40]),oP 42 (.app 56 11 (.t 39) (.t 41)),mV 8 42] (.reg [lA 43 4 6,lA 44 11 10,oP 45 (.call 37 [.t 43,.t 44]),nP (.sto 4 (.t 6) (.t 45))])))) (.reg [mV 34 9,oP 35 (.bin .sub (.t 34) (.c (.int .i64 1))),mV 9 35])))))) (.seq (.drw [0,0,0,1,11,31] [(0,mV 46 5),(1,mV 47 8),(2,lA 48 4 6),(3,mV 2 46),(4,mV 3 47),(5,nP (.sto 4 (.t 4) (.t 48)))]) .ret))))))
theorem dg31:Dg Tryz.prog 31 Tryz.f31 ic31 [(.t 2),(.t 3),(.cell 4 4 true)]:=⟨Tryz.func31,by kernel_rfl,by kernel_rfl⟩
set_option maxHeartbeats 1000000 in
theorem c31 (code:B) (p:Int) (hc:code.length≤2000) (hp:0≤p∧p≤200000000):FnP Tryz.prog G 31 1 [rdH code p] [.pv 0 0] (playA code p):=by
  obtain ⟨w1,hw1⟩:=world1
  have hwl:∀ {cs w},1≤cs.length→worldNew cs=some w→1≤w.convs.length:=fun {cs w} h1 h=>by
    have:=newConvs_len (worldNew_is h).2.1
    omega
  refine mP dg31 Tryz.ntmps31 ⟨_,_,p,[conv1],[],w1,by omega,⟨by simp,by simp [conv1]⟩,by simp,⟨PW.new hw1,hwl (by simp) hw1⟩,rfl,rfl⟩ ?_
  simp only [ic31,go_sem,rdH]
  refine callN (c65 code p hc (by omega)) [0] [] true 12 2 (by simp only [go_sem,rdH];first|done|simp) (by simp only [go_sem,rdH];first|done|simp) (by simp) (by simp) (by simp) ?_ ?_ ?_
  · rintro _ _ ⟨q',_,_,_,_,rfl⟩
    exact ⟨by simp,by simp,.inl rfl,fun i hi=>by obtain rfl:i=0:=(by omega);simp [chH,stepOk,rdH]⟩
  · intro i hi;rcases (show i=0∨i=1 by omega) with rfl|rfl<;>simp only [go_sem]
  rintro _ _ ⟨q,cs,hq,hcs,rfl,rfl⟩
  simp only [go_sem,rdH]
  obtain ⟨⟨hcs1,hcs2⟩,hcsB⟩:=id hcs
  refine callN (c36 cs (by omega) (fun c h=>by have:=hcsB c h;omega)) [] [101201] false 15 4 (by simp only [go_sem,rdH];first|done|simp) trivial (by simp) (by simp) (by simp only [List.mem_singleton];rintro c rfl;exact ⟨rfl,by simp⟩) ?_ ?_ ?_
  · rintro _ _ (⟨w,h,rfl,rfl⟩|⟨h,rfl,rfl⟩)
    · refine ⟨by simp,by simp,.inr ⟨by simp [V.plain,V.plain2,V.plain1,V.plain0], ?_⟩,fun i hi=>by omega⟩
      obtain ⟨_,_,hz,hn⟩:=worldNew_is h
      intro s hs
      simp only [List.mem_cons,List.not_mem_nil,or_false] at hs
      rcases hs with rfl|rfl|rfl|rfl
      · exact cvP _
      · rw [hz];rfl
      · rw [hz];rfl
      · rw [hn];rfl
    · exact ⟨by simp,by simp,.inr ⟨by simp [V.plain,V.plain2,V.plain1,V.plain0],by simp⟩,fun i hi=>by omega⟩
  · intro i hi;rcases (show i=0∨i=1∨i=2∨i=3 by omega) with rfl|rfl|rfl|rfl<;>simp only [go_sem]
  rintro _ _ (⟨w,hw,rfl,rfl⟩|⟨hw,rfl,rfl⟩)
  · simp only [go_sem]
    with_reducible repeat' (first|rw [i64w (by omega)];try simp only [go_sem]|refine br ?_ ?_<;>intro h e<;>(try simp only [e,go_sem])<;>clear e|refine sd ?_<;>try simp only [go_sem]|fail)
    have hwi:=worldNew_ok hw
    have hw1l:=hwl hcs1 hw
    refine pkN code q 58 31 hc fun k k1 k2=>?_
    simp only [go_sem,rdH]
    have k2:=k2 (by omega)
    with_reducible repeat' (first|rw [i64w (by omega)];try simp only [go_sem]|refine br ?_ ?_<;>intro h e<;>(try simp only [e,go_sem])<;>clear e|refine sd ?_<;>try simp only [go_sem]|fail)
    refine loopN (fun a:Int × List Ev × M.World × Int=>⟨getL [(0,.pv 0 0),(4,.pv 1004 0),(5,.own 101201 cs.length),(6,.pv 1006 0),(8,.own 1029 a.2.1.length),(9,.int .i64 a.2.2.2)],getH [(0,.var 104 [.sl 1 (code.map byR),.int .i64 a.1]),(1004,.var 33 [.nils,.nils,.nils,.nils]),(1006,.var 33 [.own 101500 a.2.2.1.convs.length,.own 101501 a.2.2.1.door.map.length,.own 101502 a.2.2.1.door.flows.length,.own 101503 a.2.2.1.nets.length]),(101201,.arr 41 10 (cs.map Conv.row)),(1029,.arr 56 11 (a.2.1.map Ev.row)),(101500,.arr 41 10 (a.2.2.1.convs.map Conv.row)),(101501,.arr 64 3 (a.2.2.1.door.map.map Pair.row)),(101502,.arr 46 8 (a.2.2.1.door.flows.map Flw.row)),(101503,.arr 54 7 (a.2.2.1.nets.map Pk.row))]⟩)
      (fun a=>a.2.2.2.toNat) (fun a=>(0≤a.2.2.2∧a.2.2.2+a.2.1.length≤57)∧(p≤a.1∧a.1≤p+151+60 * a.2.1.length)∧(PW a.2.2.1∧1≤a.2.2.1.convs.length)∧∀ e∈a.2.1,e.pkt.text.length≤50) (q+1,[],w,k) (leQ []) ⟨by simp;omega,by simp;omega,⟨PW.new hw,hw1l⟩,by simp⟩ ?_
    intro ⟨q2,es,v,n⟩ ⟨h1,h2,⟨h3,h4⟩,h5⟩
    simp only at h1 h2 h3 h4 h5
    have hp3:=h3
    have h3:=h3.1
    simp only [go_sem]
    with_reducible repeat' (first|rw [i64w (by omega)];try simp only [go_sem]|refine br ?_ ?_<;>intro h e<;>(try simp only [e,go_sem])<;>clear e|refine sd ?_<;>try simp only [go_sem]|fail)
    · have hvc:=h3.cl
      have hvn:=h3.nl
      refine callN (c49 code q2 v hc (by omega) (by omega) (by omega) (wi_acks h3)) [0,101500,101501,101502,101503] [] true 38 5 (by simp only [go_sem,rdH];first|done|simp) (by simp only [go_sem,rdH];first|done|simp) (by simp) (by simp) (by simp) ?_ ?_ ?_
      · rintro _ _ ⟨q',_,rfl,_⟩
        exact ⟨by simp,by simp,.inl rfl,fun i hi=>by rcases (show i=0∨i=1∨i=2∨i=3∨i=4 by omega) with rfl|rfl|rfl|rfl|rfl<;>simp [chH,stepOk,rdH]⟩
      · intro i hi;rcases (show i=0∨i=1∨i=2∨i=3∨i=4 by omega) with rfl|rfl|rfl|rfl|rfl<;>simp only [go_sem]
      rintro _ _ ⟨q3,hq3,rfl,e,he,rfl⟩
      simp only [go_sem,rdH]
      with_reducible repeat' (first|rw [i64w (by omega)];try simp only [go_sem]|refine br ?_ ?_<;>intro h e<;>(try simp only [e,go_sem])<;>clear e|refine sd ?_<;>try simp only [go_sem]|fail)
      refine callU (c37 v e h3 (by omega)) [101500,101501,101502,101503] [] 45 4 (by simp only [go_sem];first|done|simp) (by simp only [go_sem];first|done|simp) (by simp) (by simp) (by rintro _ _ ⟨rfl,rfl⟩;simp) (by intro i hi;rcases (show i=0∨i=1∨i=2∨i=3 by omega) with rfl|rfl|rfl|rfl<;>simp only [go_sem]) ?_
      rintro _ _ ⟨rfl,rfl⟩
      simp only [go_sem]
      with_reducible repeat' (first|rw [i64w (by omega)];try simp only [go_sem]|refine br ?_ ?_<;>intro h e<;>(try simp only [e,go_sem])<;>clear e|refine sd ?_<;>try simp only [go_sem]|fail)
      have hx:=wDo_ext v e
      refine ⟨(q3,es++[e],wDo v e,n - 1),by simp only;omega,⟨by simp only [List.length_append,List.length_cons,List.length_nil];omega,by simp only [List.length_append,List.length_cons,List.length_nil];omega,⟨hp3.step e,by simp only;have:=hx.len;omega⟩, ?_⟩,leN [(1029,1042),(101500,104500),(101501,104501),(101502,104502),(101503,104503)] ?_ ?_ (by simp [getN]) (by simp only [go_sem])⟩
      · intro x hx
        rcases List.mem_append.1 hx with hx|hx
        · exact h5 x hx
        · simp only [List.mem_singleton] at hx;subst hx;exact he
      · simp only [go_sem];simp
      · simp only [go_sem];simp [Ev.row,Pk.row]
    · refine retN (.tup [.own 1 cs.length,.own 2 es.length,.agg [.own 3 v.convs.length,.own 4 v.door.map.length,.own 5 v.door.flows.length,.own 6 v.nets.length]]) [rdH code q2,.arr 41 10 (cs.map Conv.row),.arr 56 11 (es.map Ev.row),.arr 41 10 (v.convs.map Conv.row),.arr 64 3 (v.door.map.map Pair.row),.arr 46 8 (v.door.flows.map Flw.row),.arr 54 7 (v.nets.map Pk.row)] [(1,101201),(2,1029),(3,101500),(4,101501),(5,101502),(6,101503)] (by simp only [go_sem,rdH]) ⟨q2,cs,es,v,by omega,hcs,⟨by omega,h5⟩,⟨hp3,h4⟩,rfl,rfl⟩ ?_ (by simp [argH,getN,rdH]) (by simp only [go_sem,rdH])
      simp only [go_sem,rdH]
  · simp only [go_sem]
    with_reducible repeat' (first|rw [i64w (by omega)];try simp only [go_sem]|refine br ?_ ?_<;>intro h e<;>(try simp only [e,go_sem])<;>clear e|refine sd ?_<;>try simp only [go_sem]|fail)
    have hlit:[[V.int .i64 1,V.int .i64 1,V.int .i64 4,V.int .i64 4,V.str [64,49,58,49,59,97],V.str [98,64,57,58,49,48,59],V.int .i64 0,V.int .i64 0,V.str [],V.str []]]=[conv1].map Conv.row:=rfl
    simp only [hlit]
    have hone:([conv1]:List Conv).length=1:=rfl
    refine callN (c36 [conv1] (by simp) (by simp [conv1])) [] [1023] false 26 4 (by simp only [go_sem,rdH];first|done|simp) trivial (by simp) (by simp) (by simp only [List.mem_singleton];rintro c rfl;exact ⟨rfl,by simp⟩) ?_ ?_ ?_
    · rintro _ _ (⟨w,h,rfl,rfl⟩|⟨h,rfl,rfl⟩)
      · refine ⟨by simp,by simp,.inr ⟨by simp [V.plain,V.plain2,V.plain1,V.plain0], ?_⟩,fun i hi=>by omega⟩
        obtain ⟨_,_,hz,hn⟩:=worldNew_is h
        intro s hs
        simp only [List.mem_cons,List.not_mem_nil,or_false] at hs
        rcases hs with rfl|rfl|rfl|rfl
        · exact cvP _
        · rw [hz];rfl
        · rw [hz];rfl
        · rw [hn];rfl
      · exact ⟨by simp,by simp,.inr ⟨by simp [V.plain,V.plain2,V.plain1,V.plain0],by simp⟩,fun i hi=>by omega⟩
    · intro i hi;rcases (show i=0∨i=1∨i=2∨i=3 by omega) with rfl|rfl|rfl|rfl<;>simp only [go_sem]
    rintro _ _ (⟨w,hw2,rfl,rfl⟩|⟨hw2,_,_⟩)
    rotate_left
    · rw [hw1] at hw2;cases hw2
    simp only [go_sem]
    with_reducible repeat' (first|rw [i64w (by omega)];try simp only [go_sem]|refine br ?_ ?_<;>intro h e<;>(try simp only [e,go_sem])<;>clear e|refine sd ?_<;>try simp only [go_sem]|fail)
    have hwi:=worldNew_ok hw2
    have hw1l:=hwl (cs:=[conv1]) (by simp) hw2
    refine pkN code q 58 31 hc fun k k1 k2=>?_
    simp only [go_sem,rdH]
    have k2:=k2 (by omega)
    with_reducible repeat' (first|rw [i64w (by omega)];try simp only [go_sem]|refine br ?_ ?_<;>intro h e<;>(try simp only [e,go_sem])<;>clear e|refine sd ?_<;>try simp only [go_sem]|fail)
    refine loopN (fun a:Int × List Ev × M.World × Int=>⟨getL [(0,.pv 0 0),(4,.pv 1004 0),(5,.own 1023 [conv1].length),(6,.pv 1006 0),(8,.own 1029 a.2.1.length),(9,.int .i64 a.2.2.2)],getH [(0,.var 104 [.sl 1 (code.map byR),.int .i64 a.1]),(1004,.var 33 [.nils,.nils,.nils,.nils]),(1006,.var 33 [.own 102600 a.2.2.1.convs.length,.own 102601 a.2.2.1.door.map.length,.own 102602 a.2.2.1.door.flows.length,.own 102603 a.2.2.1.nets.length]),(1023,.arr 41 10 ([conv1].map Conv.row)),(1029,.arr 56 11 (a.2.1.map Ev.row)),(102600,.arr 41 10 (a.2.2.1.convs.map Conv.row)),(102601,.arr 64 3 (a.2.2.1.door.map.map Pair.row)),(102602,.arr 46 8 (a.2.2.1.door.flows.map Flw.row)),(102603,.arr 54 7 (a.2.2.1.nets.map Pk.row))]⟩)
      (fun a=>a.2.2.2.toNat) (fun a=>(0≤a.2.2.2∧a.2.2.2+a.2.1.length≤57)∧(p≤a.1∧a.1≤p+151+60 * a.2.1.length)∧(PW a.2.2.1∧1≤a.2.2.1.convs.length)∧∀ e∈a.2.1,e.pkt.text.length≤50) (q+1,[],w,k) (leQ []) ⟨by simp;omega,by simp;omega,⟨PW.new hw2,hw1l⟩,by simp⟩ ?_
    intro ⟨q2,es,v,n⟩ ⟨h1,h2,⟨h3,h4⟩,h5⟩
    simp only at h1 h2 h3 h4 h5
    have hp3:=h3
    have h3:=h3.1
    simp only [go_sem]
    with_reducible repeat' (first|rw [i64w (by omega)];try simp only [go_sem]|refine br ?_ ?_<;>intro h e<;>(try simp only [e,go_sem])<;>clear e|refine sd ?_<;>try simp only [go_sem]|fail)
    · have hvc:=h3.cl
      have hvn:=h3.nl
      refine callN (c49 code q2 v hc (by omega) (by omega) (by omega) (wi_acks h3)) [0,102600,102601,102602,102603] [] true 38 5 (by simp only [go_sem,rdH];first|done|simp) (by simp only [go_sem,rdH];first|done|simp) (by simp) (by simp) (by simp) ?_ ?_ ?_
      · rintro _ _ ⟨q',_,rfl,_⟩
        exact ⟨by simp,by simp,.inl rfl,fun i hi=>by rcases (show i=0∨i=1∨i=2∨i=3∨i=4 by omega) with rfl|rfl|rfl|rfl|rfl<;>simp [chH,stepOk,rdH]⟩
      · intro i hi;rcases (show i=0∨i=1∨i=2∨i=3∨i=4 by omega) with rfl|rfl|rfl|rfl|rfl<;>simp only [go_sem]
      rintro _ _ ⟨q3,hq3,rfl,e,he,rfl⟩
      simp only [go_sem,rdH]
      with_reducible repeat' (first|rw [i64w (by omega)];try simp only [go_sem]|refine br ?_ ?_<;>intro h e<;>(try simp only [e,go_sem])<;>clear e|refine sd ?_<;>try simp only [go_sem]|fail)
      refine callU (c37 v e h3 (by omega)) [102600,102601,102602,102603] [] 45 4 (by simp only [go_sem];first|done|simp) (by simp only [go_sem];first|done|simp) (by simp) (by simp) (by rintro _ _ ⟨rfl,rfl⟩;simp) (by intro i hi;rcases (show i=0∨i=1∨i=2∨i=3 by omega) with rfl|rfl|rfl|rfl<;>simp only [go_sem]) ?_
      rintro _ _ ⟨rfl,rfl⟩
      simp only [go_sem]
      with_reducible repeat' (first|rw [i64w (by omega)];try simp only [go_sem]|refine br ?_ ?_<;>intro h e<;>(try simp only [e,go_sem])<;>clear e|refine sd ?_<;>try simp only [go_sem]|fail)
      have hx:=wDo_ext v e
      refine ⟨(q3,es++[e],wDo v e,n - 1),by simp only;omega,⟨by simp only [List.length_append,List.length_cons,List.length_nil];omega,by simp only [List.length_append,List.length_cons,List.length_nil];omega,⟨hp3.step e,by simp only;have:=hx.len;omega⟩, ?_⟩,leN [(1029,1042),(102600,104500),(102601,104501),(102602,104502),(102603,104503)] ?_ ?_ (by simp [getN]) (by simp only [go_sem])⟩
      · intro x hx
        rcases List.mem_append.1 hx with hx|hx
        · exact h5 x hx
        · simp only [List.mem_singleton] at hx;subst hx;exact he
      · simp only [go_sem];simp
      · simp only [go_sem];simp [Ev.row,Pk.row]
    · refine retN (.tup [.own 1 [conv1].length,.own 2 es.length,.agg [.own 3 v.convs.length,.own 4 v.door.map.length,.own 5 v.door.flows.length,.own 6 v.nets.length]]) [rdH code q2,.arr 41 10 ([conv1].map Conv.row),.arr 56 11 (es.map Ev.row),.arr 41 10 (v.convs.map Conv.row),.arr 64 3 (v.door.map.map Pair.row),.arr 46 8 (v.door.flows.map Flw.row),.arr 54 7 (v.nets.map Pk.row)] [(1,1023),(2,1029),(3,102600),(4,102601),(5,102602),(6,102603)] (by simp only [go_sem,rdH]) ⟨q2,[conv1],es,v,by omega,⟨by simp,by simp [conv1]⟩,⟨by omega,h5⟩,⟨hp3,h4⟩,rfl,rfl⟩ ?_ (by simp [argH,getN,rdH]) (by simp only [go_sem,rdH])
      simp only [go_sem,rdH]

theorem zeroWB:WB .zero:=⟨by simp [World.zero],by simp [World.zero],by simp [World.zero,Door.zero],by simp [World.zero,Door.zero],by simp [World.zero,Door.zero]⟩
theorem zero_e:World.zero=⟨[],⟨[],[]⟩,[]⟩:=rfl
def badP (p:Pk):Bool:=!pkOk p
def ic57:IC:=sR [oP 1 (.box 54 (.t 0)),oP 2 (.mv (.c (.bool false)))] (sR [lA 3 7 1,oP 4 (.call 58 [.t 3]),oP 5 (.un .not (.t 4)),mV 2 5] .ret)
theorem dg57:Dg Tryz.prog 57 Tryz.f57 ic57 [(.t 2)]:=⟨Tryz.func57,by kernel_rfl,by kernel_rfl⟩
theorem c57 (p:Pk) (h:p.text.length≤2000000):FnR Tryz.prog G 57 [.agg [.int .i64 p.kind,.int .i64 p.frm.a,.int .i64 p.frm.p,.int .i64 p.to.a,.int .i64 p.to.p,.int .i64 p.at_,.str p.text]] (.bool (badP p)):=by
  refine mF dg57 Tryz.ntmps57 ?_
  have f:=c58 p h
  unfold badP
  simp only [ic57,go_sem]
  with_reducible repeat' (first|refine br ?_ ?_<;>intro h e<;>(try simp only [e,go_sem])<;>clear e|rw [i64w (by omega)]|refine sd ?_<;>try simp only [go_sem]|(first|refine cr (f ..) ?_)<;>try simp only [go_sem]|fail)
def ic113:IC:=sR [oP 4 (.mv (.c i0))] (.seq (sR [mV 6 0,oP 7 (.len (.t 6)),oP 8 (.mv (.c i0))] (.block 0 (.loop (sR [bN 9 .lss 8 7] (.seq (.cond (.t 9) .skip (.exit 0)) (.seq (.block 1 (sR [mV 10 8,mV 5 10] (sR [mV 11 1,mV 12 0,mV 13 5,oP 14 (.iad 7 (.t 12) (.t 13)),lA 15 7 14,oP 16 (.cal (.t 11) [.t 15])] (.cond (.t 16) (sR [mV 17 5,mV 4 17] .ret) .skip)))) (.reg [oP 18 (.bin .add (.t 8) (.c (.int .i64 1))),mV 8 18]))))))) (sR [oP 4 (.mv (.c (.int .i64 (-1))))] .ret))
theorem dg113:Dg Tryz.prog 113 Tryz.f113 ic113 [(.t 4)]:=⟨Tryz.func113,by kernel_rfl,by kernel_rfl⟩
theorem c113 (l:List Pk) (hl:l.length≤2000000) (ht:∀ p∈l,p.text.length≤2000000):FnR Tryz.prog G 113 [.sl 7 (l.map Pk.row),.fn 57 []] (.int .i64 (ixI (l.findIdx? badP))):=by
  refine mF dg113 Tryz.ntmps113 ?_
  simp only [ic113,go_sem]
  refine loopN (fun k:Nat=>⟨getL [(0,.sl 7 (l.map Pk.row)),(1,.fn 57 []),(7,.int .i64 l.length),(8,.int .i64 (k:Int))],getH []⟩) (fun k=>l.length - k)
    (fun k=>k≤l.length∧(l.take k).any badP=false) 0 (leQ []) ⟨Nat.zero_le _,by simp⟩ ?_
  intro k ⟨hk,ha⟩
  simp only [go_sem]
  by_cases h:(k:Int)<l.length
  · have hil:k<l.length:=by omega
    have hg:l.getD k default=l[k]:=by simp [List.getD,hil]
    have hy:=findIdx_yes hil ha
    have hs:=any_step hil ha
    have f:=c57 l[k] (ht _ (List.getElem_mem hil))
    simp only [eq_true h,go_sem]
    refine effG (by omega) ?_
    simp only [hg,go_sem]
    refine callR f rfl rfl ?_
    simp only [go_sem]
    with_reducible repeat' (first|refine br ?_ ?_<;>intro h e<;>(try simp only [e,go_sem])<;>clear e|rw [i64w (by omega)]|refine sd ?_<;>try simp only [go_sem]|fail)
    · rw [hy (by assumption)];rfl
    · exact ⟨k+1,by omega,⟨by omega,hs (by assumption)⟩,(leQ [])⟩
  · simp only [eq_false h,go_sem]
    have:k=l.length:=by omega
    subst this
    rw [List.take_length] at ha
    rw [findIdx_no ha];rfl
def ic56:IC:=sR [oP 4 (.mv (.c (.bool false)))] (sR [mV 5 0,mV 6 1,oP 7 (.call 113 [.t 5,.t 6]),oP 8 (.bin .geq (.t 7) (.c i0)),mV 4 8] .ret)
theorem dg56:Dg Tryz.prog 56 Tryz.f56 ic56 [(.t 4)]:=⟨Tryz.func56,by kernel_rfl,by kernel_rfl⟩
theorem c56 (l:List Pk) (hl:l.length≤2000000) (ht:∀ p∈l,p.text.length≤2000000):FnR Tryz.prog G 56 [.sl 7 (l.map Pk.row),.fn 57 []] (.bool (l.any badP)):=by
  refine mF dg56 Tryz.ntmps56 ?_
  simp only [ic56,go_sem]
  refine callR (c113 l hl ht) rfl rfl ?_
  simp only [go_sem,ixI_any]
theorem any_bad (l:List Pk):(!l.any badP)=l.all pkOk:=by
  induction l with
  | nil=>rfl
  | cons p l ih=>simp [badP,← ih]
structure WS (w:M.World):Prop where
  cl:w.convs.length≤2000000
  cb:∀ c∈w.convs,(c.up.length≤2000000∧c.down.length≤2000000)∧c.upGot.length≤2000000∧c.downGot.length≤2000000
  db:DB w.door
  nl:w.nets.length≤2000000
  nt:∀ p∈w.nets,p.text.length≤2000000
def ic23:IC:=sR [oP 1 (.box 33 (.t 0)),oP 2 (.mv (.c (.bool false)))] (sR [fD 3 0 1,lD 4 1 3,oP 5 (.call 54 [.t 4]),mV 6 5,⟨some 7,some (6,true),.fad 1 (.t 1)⟩,⟨some 8,some (6,true),.ld 2 true (.t 7)⟩,⟨some 9,some (6,true),.call 55 [.t 8]⟩,oP 10 (.pick (.t 6) (.t 9) (.c (.bool false))),mV 11 10,⟨some 12,some (11,true),.fad 3 (.t 1)⟩,⟨some 13,some (11,true),.ld 1 false (.t 12)⟩,⟨some 14,some (11,true),.len (.t 13)⟩,⟨some 15,some (11,true),.bin .leq (.t 14) (.c (.int .i64 10))⟩,oP 16 (.pick (.t 11) (.t 15) (.c (.bool false))),mV 17 16,⟨some 18,some (17,true),.fad 3 (.t 1)⟩,⟨some 19,some (17,true),.ld 1 false (.t 18)⟩,⟨some 20,some (17,true),.call 56 [.t 19,.c (.fn 57 [])]⟩,⟨some 21,some (17,true),.un .not (.t 20)⟩,oP 22 (.pick (.t 17) (.t 21) (.c (.bool false))),mV 2 22] .ret)
theorem dg23:Dg Tryz.prog 23 Tryz.f23 ic23 [(.t 2)]:=⟨Tryz.func23,by kernel_rfl,by kernel_rfl⟩
theorem c23 (w:M.World) (h:WS w):FnR Tryz.prog G 23 [.agg [.sl 10 (w.convs.map Conv.row),.sl 3 (w.door.map.map Pair.row),.sl 8 (w.door.flows.map Flw.row),.sl 7 (w.nets.map Pk.row)]] (.bool (worldOk w)):=by
  refine mF dg23 Tryz.ntmps23 ?_
  have f1:=c54 w.convs h.cl h.cb
  have f2:=c55 w.door h.db
  have f3:=c56 w.nets h.nl h.nt
  have e:worldOk w=(together w.convs && doorOk w.door && decide (w.nets.length≤10) && !w.nets.any badP):=by rw [any_bad];rfl
  rw [e]
  generalize together w.convs=b1 at *
  generalize doorOk w.door=b2 at *
  generalize w.nets.any badP=b3 at *
  simp only [ic23,go_sem]
  with_reducible repeat' (first|refine br ?_ ?_<;>intro h e<;>(try simp only [e,go_sem])<;>clear e|rw [i64w (by omega)]|refine sd ?_<;>try simp only [go_sem]|(first|refine cr (f1 ..) ?_|refine cr (f2 ..) ?_|refine cr (f3 ..) ?_)<;>try simp only [go_sem]|fail)
  all_goals first|done|(clear f1 f2 f3 e;simp_all;done)|(clear f1 f2 f3 e;simp_all;omega)|trace_state
theorem wx_ws {X:List (E × E)} {w:M.World} (h:WX X w):WS w:=by
  obtain ⟨hdm,hdf,_⟩:=doorOk_iff.1 h.door
  have hm:=(mapOk_ports hdm).2
  have hcl:=h.cl
  have hnl:=h.nl
  refine ⟨by omega,fun c hc=>?_,⟨by omega,by omega,fun f hf=>?_⟩,by omega,fun p hp=>?_⟩
  · have:=convOk_B (h.cv c hc)
    have h1:=this.up;have h2:=this.down;have h3:=this.upGot;have h4:=this.downGot
    omega
  · obtain ⟨k,hk⟩:=List.mem_iff_getElem?.1 hf
    obtain ⟨_,_,h1,h2,_⟩:=flow_at h.door hk
    exact ⟨(strmOk_B h1).sb,(strmOk_B h2).sb⟩
  · have:=(h.net p hp).pk.len
    omega
theorem wi_ws {w:M.World} (h:WI w):WS w:=wx_ws h.x
def ic22:IC:=sR [oP 1 (.box 33 (.t 0)),oP 2 (.mv (.c (.bool false)))] (.seq (sR [oP 3 (.mv (.c i0))] (.block 0 (.loop (.seq (sR [mV 4 3,fD 5 3 1,lD 6 1 5,oP 7 (.len (.t 6)),bN 8 .lss 4 7] (.cond (.t 8) .skip (.exit 0))) (.seq (.block 1 (sR [fD 11 3 1,lD 12 1 11,mV 13 3,oP 14 (.iad 7 (.t 12) (.t 13)),lA 15 7 14,oP 16 (.call 51 [.t 15]),oP 17 (.un .not (.t 16))] (.cond (.t 17) (sR [oP 2 (.mv (.c (.bool false)))] .ret) .skip))) (.reg [mV 9 3,oP 10 (.bin .add (.t 9) (.c (.int .i64 1))),mV 3 10])))))) (sR [fD 18 0 1,lD 19 1 18,oP 20 (.call 52 [.t 19]),mV 21 20,⟨some 22,some (21,true),.fad 1 (.t 1)⟩,⟨some 23,some (21,true),.ld 2 true (.t 22)⟩,⟨some 24,some (21,true),.call 53 [.t 23]⟩,oP 25 (.pick (.t 21) (.t 24) (.c (.bool false))),mV 26 25,⟨some 27,some (26,true),.fad 3 (.t 1)⟩,⟨some 28,some (26,true),.ld 1 false (.t 27)⟩,⟨some 29,some (26,true),.len (.t 28)⟩,⟨some 30,some (26,true),.bin .leq (.t 29) (.c (.int .i64 10))⟩,oP 31 (.pick (.t 26) (.t 30) (.c (.bool false))),mV 2 31] .ret))
theorem dg22:Dg Tryz.prog 22 Tryz.f22 ic22 [(.t 2)]:=⟨Tryz.func22,by kernel_rfl,by kernel_rfl⟩
theorem c22 (w:M.World) (h:WS w):FnR Tryz.prog G 22 [.agg [.sl 10 (w.convs.map Conv.row),.sl 3 (w.door.map.map Pair.row),.sl 8 (w.door.flows.map Flw.row),.sl 7 (w.nets.map Pk.row)]] (.bool (worldOk w)):=by
  refine mF dg22 Tryz.ntmps22 ?_
  have f1:=c52 w.convs h.cl h.cb
  have f2:=c53 w.door h.db
  have e:worldOk w=(together w.convs && doorOk w.door && decide (w.nets.length≤10) && w.nets.all pkOk):=rfl
  simp only [ic22,go_sem]
  refine loopN (fun k:Nat=>⟨getL [(1,.pv 1001 0),(3,.int .i64 (k:Int))],getH [(1001,.var 33 [.sl 10 (w.convs.map Conv.row),.sl 3 (w.door.map.map Pair.row),.sl 8 (w.door.flows.map Flw.row),.sl 7 (w.nets.map Pk.row)])]⟩) (fun k=>w.nets.length - k) (fun k=>k≤w.nets.length∧(w.nets.take k).all pkOk=true) 0 (leQ []) ⟨Nat.zero_le _,by simp⟩ ?_
  intro k ⟨hk,ha⟩
  simp only [go_sem]
  by_cases hh:(k:Int)<w.nets.length
  · have hil:k<w.nets.length:=by omega
    have hg:w.nets.getD k default=w.nets[k]:=by simp [List.getD,hil]
    have fp:=c51 w.nets[k] (h.nt _ (List.getElem_mem hil))
    cases hb:pkOk w.nets[k] with
    | false =>
      rw [hb] at fp
      have hbad:worldOk w=false:=by
        rw [e]
        have:w.nets.all pkOk=false:=by
          cases hx:w.nets.all pkOk with
          | false=>rfl
          | true =>
            have:=List.all_eq_true.1 hx _ (List.getElem_mem hil)
            rw [hb] at this
            cases this
        rw [this,Bool.and_false]
      simp only [eq_true hh,go_sem]
      generalize w.nets[k]=q at *
      with_reducible repeat' (first|refine br ?_ ?_<;>intro h e<;>(try simp only [e,go_sem,getD_mp hil,hg])<;>clear e|rw [i64w (by omega)]|refine sd ?_<;>try simp only [go_sem,getD_mp hil,hg]|(first|refine cr (fp ..) ?_)<;>try simp only [go_sem,getD_mp hil,hg]|fail)
      all_goals first|done|exact hbad|simp [hbad]
    | true =>
      rw [hb] at fp
      have hst:(w.nets.take (k+1)).all pkOk=true:=by
        rw [List.take_add_one,List.getElem?_eq_getElem hil]
        simp only [Option.toList_some,List.all_append,ha,List.all_cons,List.all_nil,Bool.and_true,hb]
      simp only [eq_true hh,go_sem]
      generalize w.nets[k]=q at *
      have hnl:=h.nl
      with_reducible repeat' (first|rw [i64w (by omega)];try simp only [go_sem,getD_mp hil,hg]|refine br ?_ ?_<;>intro h e<;>(try simp only [e,go_sem,getD_mp hil,hg])<;>clear e|refine sd ?_<;>try simp only [go_sem,getD_mp hil,hg]|(first|refine cr (fp ..) ?_)<;>try simp only [go_sem,getD_mp hil,hg]|fail)
      exact ⟨k+1,by omega,⟨by omega,hst⟩,(leQ [])⟩
  · simp only [eq_false hh,go_sem]
    obtain rfl:k=w.nets.length:=by omega
    rw [List.take_length] at ha
    have e2:worldOk w=(together w.convs && doorOk w.door && decide (w.nets.length≤10)):=by rw [e,ha,Bool.and_true]
    rw [e2]
    clear e e2 ha
    generalize together w.convs=b1 at *
    generalize doorOk w.door=b2 at *
    with_reducible repeat' (first|refine br ?_ ?_<;>intro h e<;>(try simp only [e,go_sem])<;>clear e|rw [i64w (by omega)]|refine sd ?_<;>try simp only [go_sem]|(first|refine cr (f1 ..) ?_|refine cr (f2 ..) ?_)<;>try simp only [go_sem]|fail)
    all_goals first|done|(clear f1 f2;simp_all;done)|(clear f1 f2;simp_all;omega)|trace_state
def ic50:IC:=sR [oP 1 (.box 33 (.t 0)),oP 2 (.alloc 33 [.nils,.nils,.nils,.nils])] (.seq (.drw [0,0,2,7,0,16,63,0,0,256,1023,2047,4095] [(0,oP 3 (.bsl 41 10 [])),(1,fD 4 0 1),(2,lD 5 1 4),(3,oP 6 (.app 41 10 (.t 3) (.t 5))),(4,fD 7 1 1),(5,lA 8 2 7),(6,oP 9 (.call 103 [.t 8])),(7,oP 10 (.bsl 54 7 [])),(8,fD 11 3 1),(9,lD 12 1 11),(10,oP 13 (.app 54 7 (.t 10) (.t 12))),(11,oP 14 (.build [.nils,.nils,.nils,.nils] [(0,(1,.t 6)),(1,(2,.t 9)),(3,(1,.t 13))])),(12,nP (.sto 4 (.t 2) (.t 14)))]) .ret)
theorem dg50:Dg Tryz.prog 50 Tryz.f50 ic50 [(.cell 2 4 true)]:=⟨Tryz.func50,by kernel_rfl,by kernel_rfl⟩
theorem c50 {X:List (E × E)} (w:M.World) (hw:WX X w):FnP Tryz.prog G 50 0 [] [.agg [.sl 10 (w.convs.map Conv.row),.sl 3 (w.door.map.map Pair.row),.sl 8 (w.door.flows.map Flw.row),.sl 7 (w.nets.map Pk.row)]] (worldA w):=by
  refine mP dg50 Tryz.ntmps50 ⟨_,_,rfl,rfl⟩ ?_
  have hnl:=hw.nl
  have hcl:=hw.cl
  have hfl:=hw.flows3
  obtain ⟨hdm,hdf,_⟩:=doorOk_iff.1 hw.door
  have hml:=(mapOk_ports hdm).2
  simp only [ic50,go_sem]
  with_reducible repeat' (first|refine br ?_ ?_<;>intro h e<;>(try simp only [e,go_sem])<;>clear e|rw [i64w (by omega)]|refine sd ?_<;>try simp only [go_sem]|fail)
  refine callO (c103 (w.door.map.map Pair.row) w.door.flows (by simp;omega) (by omega) (copyC hw.door)) [] 9 2 (by simp only [go_sem];first|done|simp) (by simp) (by rintro _ _ ⟨rfl,rfl⟩;simp) (by intro i hi;rcases (show i=0∨i=1 by omega) with rfl|rfl<;>simp only [go_sem]) ?_
  rintro _ _ ⟨rfl,rfl⟩
  simp only [go_sem]
  with_reducible repeat' (first|refine br ?_ ?_<;>intro h e<;>(try simp only [e,go_sem])<;>clear e|rw [i64w (by omega)]|refine sd ?_<;>try simp only [go_sem]|fail)
  exact worldRet (d:=2) (c:=1002) 1006 100900 100901 1013 (by simp only [go_sem]) (by simp only [go_sem];first|done|simp) (by simp only [go_sem];first|done|simp) (by simp only [go_sem]) (by simp only [go_sem]) (by simp only [go_sem];first|done|simp) (by decide)
theorem worldDo_e (w:M.World) (e:Ev):(worldOk w=true→worldDo w e=wDo w e)∧(worldOk w=false→worldDo w e=.zero):=by
  unfold worldDo
  exact ⟨fun h=>by rw [if_pos h],fun h=>by rw [if_neg (by rw [h];decide)]⟩
def ic21:IC:=sR [oP 2 (.box 33 (.t 0)),oP 3 (.box 56 (.t 1)),oP 4 (.alloc 33 [.nils,.nils,.nils,.nils])] (.seq (sR [lA 5 4 2,oP 6 (.call 22 [.t 5]),oP 7 (.un .not (.t 6))] (.cond (.t 7) (sR [oP 8 (.build [.nils,.nils,.nils,.nils] []),nP (.sto 4 (.t 4) (.t 8))] .ret) .skip)) (.seq (.drw [0,1,0,7,15] [(0,lA 9 4 2),(1,oP 10 (.call 50 [.t 9])),(2,lA 11 11 3),(3,oP 12 (.call 37 [.t 10,.t 11])),(4,nP (.sto 4 (.t 4) (.t 12)))]) .ret))
theorem dg21:Dg Tryz.prog 21 Tryz.f21 ic21 [(.cell 4 4 true)]:=⟨Tryz.func21,by kernel_rfl,by kernel_rfl⟩
theorem r21 (w:M.World) (e:Ev) (hs:WS w) (hq:worldOk w=true→∃ X,WX X w) (ht:e.pkt.text.length≤2000000):FnR Tryz.prog G 21 [.agg [.sl 10 (w.convs.map Conv.row),.sl 3 (w.door.map.map Pair.row),.sl 8 (w.door.flows.map Flw.row),.sl 7 (w.nets.map Pk.row)],.agg [.int .i64 e.kind,.int .i64 e.a,.int .i64 e.b,.int .i64 e.c,.int .i64 e.pkt.kind,.int .i64 e.pkt.frm.a,.int .i64 e.pkt.frm.p,.int .i64 e.pkt.to.a,.int .i64 e.pkt.to.p,.int .i64 e.pkt.at_,.str e.pkt.text]] (.agg [.sl 10 ((worldDo w e).convs.map Conv.row),.sl 3 ((worldDo w e).door.map.map Pair.row),.sl 8 ((worldDo w e).door.flows.map Flw.row),.sl 7 ((worldDo w e).nets.map Pk.row)]):=by
  refine mF dg21 Tryz.ntmps21 ?_
  have f1:=c22 w hs
  have hw:=worldDo_e w e
  cases hok:worldOk w with
  | false =>
    rw [hok] at f1
    rw [hw.2 hok]
    simp only [ic21,go_sem,zero_e,List.map_nil]
    with_reducible repeat' (first|refine br ?_ ?_<;>intro h e<;>(try simp only [e,go_sem])<;>clear e|rw [i64w (by omega)]|refine sd ?_<;>try simp only [go_sem]|(first|refine cr (f1 ..) ?_)<;>try simp only [go_sem]|fail)
  | true =>
    obtain ⟨X,hx⟩:=hq hok
    rw [hok] at f1
    rw [hw.1 hok]
    simp only [ic21,go_sem]
    with_reducible repeat' (first|refine br ?_ ?_<;>intro h e<;>(try simp only [e,go_sem])<;>clear e|rw [i64w (by omega)]|refine sd ?_<;>try simp only [go_sem]|(first|refine cr (f1 ..) ?_)<;>try simp only [go_sem]|fail)
    refine callO (c50 w hx) [] 10 4 (by simp only [go_sem];first|done|simp) (by simp) (by rintro _ _ ⟨rfl,rfl⟩;simp) (by intro i hi;rcases (show i=0∨i=1∨i=2∨i=3 by omega) with rfl|rfl|rfl|rfl<;>simp only [go_sem]) ?_
    rintro _ _ ⟨rfl,rfl⟩
    simp only [go_sem]
    with_reducible repeat' (first|refine br ?_ ?_<;>intro h e<;>(try simp only [e,go_sem])<;>clear e|rw [i64w (by omega)]|refine sd ?_<;>try simp only [go_sem]|fail)
    refine callU (x37 w e hx ht) [101000,101001,101002,101003] [] 12 4 (by simp only [go_sem];first|done|simp) (by simp only [go_sem];first|done|simp) (by simp) (by simp) (by rintro _ _ ⟨rfl,rfl⟩;simp) (by intro i hi;rcases (show i=0∨i=1∨i=2∨i=3 by omega) with rfl|rfl|rfl|rfl<;>simp only [go_sem]) ?_
    rintro _ _ ⟨rfl,rfl⟩
    simp only [go_sem]
    with_reducible repeat' (first|refine br ?_ ?_<;>intro h e<;>(try simp only [e,go_sem])<;>clear e|rw [i64w (by omega)]|refine sd ?_<;>try simp only [go_sem]|fail)

def ic18:IC:=sR [oP 4 (.mv (.c (.bool false)))] (sR [mV 5 0,oP 6 (.lens (.t 5)),mV 7 1,oP 8 (.lens (.t 7)),bN 9 .leq 6 8,mV 10 9,⟨some 11,some (10,true),.mv (.t 1)⟩,⟨some 12,some (10,true),.mv (.t 0)⟩,⟨some 13,some (10,true),.lens (.t 12)⟩,⟨some 14,some (10,true),.sls (.t 11) none (some (.t 13))⟩,⟨some 15,some (10,true),.mv (.t 0)⟩,⟨some 16,some (10,true),.bin .eql (.t 14) (.t 15)⟩,oP 17 (.pick (.t 10) (.t 16) (.c (.bool false))),mV 4 17] .ret)
theorem dg18:Dg Tryz.prog 18 Tryz.f18 ic18 [(.t 4)]:=⟨Tryz.func18,by kernel_rfl,by kernel_rfl⟩
theorem c18 (a b:B) (h:a <+: b) (hb:b.length≤2000000):FnR Tryz.prog G 18 [.str a,.str b] (.bool true):=by
  refine mF dg18 Tryz.ntmps18 ?_
  have hl:=h.length_le
  have ht:b.take a.length=a:=(List.prefix_iff_eq_take.1 h).symm
  simp only [ic18,go_sem]
  with_reducible repeat' (first|refine br ?_ ?_<;>intro h e<;>(try simp only [e,go_sem,ht,Int.toNat_natCast,List.drop_zero])<;>clear e|rw [i64w (by omega)]|refine sd ?_<;>try simp only [go_sem,ht,Int.toNat_natCast,List.drop_zero]|fail)
  all_goals omega

def ic20:IC:=sR [oP 2 (.box 33 (.t 0)),oP 3 (.box 56 (.t 1)),oP 4 (.alloc 33 [.nils,.nils,.nils,.nils])] (.seq (sR [lA 6 4 2,oP 7 (.call 23 [.t 6]),oP 8 (.un .not (.t 7))] (.cond (.t 8) (sR [oP 9 (.build [.nils,.nils,.nils,.nils] []),nP (.sto 4 (.t 4) (.t 9))] .ret) .skip)) (sR [lA 10 4 2,oP 11 (.call 35 [.t 10]),oP 5 (.alloc 33 [.nils,.nils,.nils,.nils]),nP (.sto 4 (.t 5) (.t 11))] (sR [lA 12 11 3,oP 13 (.call 34 [.t 5,.t 12])] (sR [lA 14 4 5,oP 15 (.call 35 [.t 14]),nP (.sto 4 (.t 4) (.t 15))] .ret))))
theorem dg20:Dg Tryz.prog 20 Tryz.f20 ic20 [(.cell 4 4 true)]:=⟨Tryz.func20,by kernel_rfl,by kernel_rfl⟩
theorem x20 {X:List (E × E)} (w:M.World) (e:Ev) (hw:WX X w) (hok:worldOk w=true) (ht:e.pkt.text.length≤2000000):FnR Tryz.prog G 20 [.agg [.sl 10 (w.convs.map Conv.row),.sl 3 (w.door.map.map Pair.row),.sl 8 (w.door.flows.map Flw.row),.sl 7 (w.nets.map Pk.row)],.agg [.int .i64 e.kind,.int .i64 e.a,.int .i64 e.b,.int .i64 e.c,.int .i64 e.pkt.kind,.int .i64 e.pkt.frm.a,.int .i64 e.pkt.frm.p,.int .i64 e.pkt.to.a,.int .i64 e.pkt.to.p,.int .i64 e.pkt.at_,.str e.pkt.text]] (.agg [.sl 10 ((wDo w e).convs.map Conv.row),.sl 3 ((wDo w e).door.map.map Pair.row),.sl 8 ((wDo w e).door.flows.map Flw.row),.sl 7 ((wDo w e).nets.map Pk.row)]):=by
  refine mF dg20 Tryz.ntmps20 ?_
  have f1:=c23 w (wx_ws hw)
  rw [hok] at f1
  simp only [ic20,go_sem]
  with_reducible repeat' (first|refine br ?_ ?_<;>intro h e<;>(try simp only [e,go_sem])<;>clear e|rw [i64w (by omega)]|refine sd ?_<;>try simp only [go_sem]|(first|refine cr (f1 ..) ?_)<;>try simp only [go_sem]|fail)
  refine callO (o35 w hw) [] 11 3 (by simp only [go_sem];first|done|simp) (by simp) (by rintro _ _ ⟨rfl,rfl⟩;simp) (by intro i hi;rcases (show i=0∨i=1∨i=2 by omega) with rfl|rfl|rfl<;>simp only [go_sem]) ?_
  rintro _ _ ⟨rfl,rfl⟩
  simp only [go_sem]
  with_reducible repeat' (first|refine br ?_ ?_<;>intro h e<;>(try simp only [e,go_sem])<;>clear e|rw [i64w (by omega)]|refine sd ?_<;>try simp only [go_sem]|fail)
  refine callN (x34 w e hw ht) [1005,101101,101100,101102] [] true 13 4 (by simp only [go_sem];first|done|simp) (by simp only [go_sem];first|done|simp) (by simp) (by simp) (by simp) ?_ ?_ ?_
  · rintro _ _ ⟨rfl,v',hv',rfl⟩
    exact ⟨by simp,by simp,.inl rfl,fun i hi=>by obtain rfl:i=0:=(by omega);simp [chH,stepOk]⟩
  · intro i hi
    rcases (show i=0∨i=1∨i=2∨i=3 by omega) with rfl|rfl|rfl|rfl<;>simp only [go_sem]
  rintro _ _ ⟨rfl,v,hv,rfl⟩
  have hwv:WX X v:=by rw [hv];exact wDo_X hw e
  rw [← hv]
  simp only [go_sem]
  with_reducible repeat' (first|refine br ?_ ?_<;>intro h e<;>(try simp only [e,go_sem])<;>clear e|rw [i64w (by omega)]|refine sd ?_<;>try simp only [go_sem]|fail)
  refine callF (x35 v hwv) [101302,101301,101303] true (by simp only [go_sem];simp) (by simp only [List.mem_cons,List.not_mem_nil,or_false];rintro c (rfl|rfl|rfl)<;>simp only [go_sem]) rfl (.inl rfl) ?_
  simp only [go_sem]
  with_reducible repeat' (first|refine br ?_ ?_<;>intro h e<;>(try simp only [e,go_sem])<;>clear e|rw [i64w (by omega)]|refine sd ?_<;>try simp only [go_sem]|fail)
theorem c20 (w:M.World) (e:Ev) (hw:WI w) (hok:worldOk w=true) (ht:e.pkt.text.length≤2000000):FnR Tryz.prog G 20 [.agg [.sl 10 (w.convs.map Conv.row),.sl 3 (w.door.map.map Pair.row),.sl 8 (w.door.flows.map Flw.row),.sl 7 (w.nets.map Pk.row)],.agg [.int .i64 e.kind,.int .i64 e.a,.int .i64 e.b,.int .i64 e.c,.int .i64 e.pkt.kind,.int .i64 e.pkt.frm.a,.int .i64 e.pkt.frm.p,.int .i64 e.pkt.to.a,.int .i64 e.pkt.to.p,.int .i64 e.pkt.at_,.str e.pkt.text]] (.agg [.sl 10 ((wDo w e).convs.map Conv.row),.sl 3 ((wDo w e).door.map.map Pair.row),.sl 8 ((wDo w e).door.flows.map Flw.row),.sl 7 ((wDo w e).nets.map Pk.row)]) :=
  x20 w e hw.x hok ht


theorem r20 (w:M.World) (e:Ev) (hs:WS w) (hq:worldOk w=true→∃ X,WX X w) (ht:e.pkt.text.length≤2000000):FnR Tryz.prog G 20 [.agg [.sl 10 (w.convs.map Conv.row),.sl 3 (w.door.map.map Pair.row),.sl 8 (w.door.flows.map Flw.row),.sl 7 (w.nets.map Pk.row)],.agg [.int .i64 e.kind,.int .i64 e.a,.int .i64 e.b,.int .i64 e.c,.int .i64 e.pkt.kind,.int .i64 e.pkt.frm.a,.int .i64 e.pkt.frm.p,.int .i64 e.pkt.to.a,.int .i64 e.pkt.to.p,.int .i64 e.pkt.at_,.str e.pkt.text]] (.agg [.sl 10 ((worldDo w e).convs.map Conv.row),.sl 3 ((worldDo w e).door.map.map Pair.row),.sl 8 ((worldDo w e).door.flows.map Flw.row),.sl 7 ((worldDo w e).nets.map Pk.row)]):=by
  have hw:=worldDo_e w e
  cases hok:worldOk w with
  | false =>
    refine mF dg20 Tryz.ntmps20 ?_
    have f1:=c23 w hs
    rw [hok] at f1
    rw [hw.2 hok]
    simp only [ic20,go_sem,zero_e,List.map_nil]
    with_reducible repeat' (first|refine br ?_ ?_<;>intro h e<;>(try simp only [e,go_sem])<;>clear e|rw [i64w (by omega)]|refine sd ?_<;>try simp only [go_sem]|(first|refine cr (f1 ..) ?_)<;>try simp only [go_sem]|fail)
  | true =>
    obtain ⟨X,hx⟩:=hq hok
    rw [hw.1 hok]
    exact x20 w e hx hok ht
def ic26:IC:=sR [oP 5 (.box 41 (.t 0)),oP 10 (.alloc 54 [i0,i0,i0,i0,i0,i0,s0]),oP 11 (.mv (.c (.bool false)))] (.seq (sR [lA 12 10 5,oP 13 (.call 60 [.t 12]),oP 14 (.un .not (.t 13))] (.cond (.t 14) (sR [oP 15 (.build [i0,i0,i0,i0,i0,i0,s0] []),nP (.sto 7 (.t 10) (.t 15)),oP 11 (.mv (.c (.bool false)))] .ret) .skip)) (sR [lA 16 10 5,mV 17 1,mV 18 2,mV 19 3,mV 20 4,oP 21 (.call 61 [.t 16,.t 17,.t 18,.t 19,.t 20]),eX 22 21 0,eX 23 21 1,nP (.sto 7 (.t 10) (.t 22)),mV 11 23] .ret))
theorem dg26:Dg Tryz.prog 26 Tryz.f26 ic26 [(.cell 10 7 true),(.t 11)]:=⟨Tryz.func26,by kernel_rfl,by kernel_rfl⟩
theorem c26 (c:Conv) (up:Bool) (port n m:Int) (hc:convOk c=true):FnR Tryz.prog G 26 [.agg [.int .i64 c.ins.a,.int .i64 c.ins.p,.int .i64 c.out.a,.int .i64 c.out.p,.str c.up,.str c.down,.int .i64 c.upAck,.int .i64 c.downAck,.str c.upGot,.str c.downGot],.bool up,.int .i64 port,.int .i64 n,.int .i64 m] (.tup [.agg (Pk.row ((say c up port n m).getD .zero)),.bool (say c up port n m).isSome]):=by
  refine mF dg26 Tryz.ntmps26 ?_
  have hb:=convOk_B hc
  have b1:=hb.up
  have b2:=hb.down
  have b3:=hb.upGot
  have b4:=hb.downGot
  have f1:=c60 c (by omega) (by omega) (by omega) (by omega)
  have f2:=c61 c up port n m (by omega) (by omega)
  rw [hc] at f1
  generalize say c up port n m=o at *
  simp only [ic26,go_sem]
  with_reducible repeat' (first|refine br ?_ ?_<;>intro h e<;>(try simp only [e,go_sem])<;>clear e|rw [i64w (by omega)]|refine sd ?_<;>try simp only [go_sem]|(first|refine cr (f1 ..) ?_|refine cr (f2 ..) ?_)<;>try simp only [go_sem]|fail)
def mapQ (code:B) (p k:Int) (r:V) (o:List Hs):Prop:=∃ (p':Int) (m:List Pair),(p≤p'∧p'≤p+k)∧(PortsOk m∧m.length≤10) ∧
  ((r=.own 1 m.length∧o=[rdH code p',.arr 64 3 (m.map Pair.row)])∨∃ q:Pair,r=.view 1 1 m.length∧o=[rdH code p',.arr 64 3 ((q :: m).map Pair.row)])
theorem PortsOk.app {m:List Pair} (h:PortsOk m) {q:Pair} (hq:q.port≠0∧q.port<1000):PortsOk (m++[q]):=fun p hp=>by
  rcases List.mem_append.1 hp with hp|hp
  · exact h p hp
  · simp only [List.mem_singleton] at hp;subst hp;exact hq
theorem PortsOk.setIns {m:List Pair} (h:PortsOk m) {k:Nat} (hk:k<m.length) (e:E):PortsOk (m.set k ⟨m[k].port,e⟩):=fun p hp=>by
  rcases List.mem_or_eq_of_mem_set hp with hp|rfl
  · exact h p hp
  · exact h m[k] (List.getElem_mem hk)
def ic100:IC:=sR [oP 2 (.mv (.c .nils))] (sR [oP 5 (.bsl 64 3 []),mV 3 5] (.seq (sR [mV 6 0,oP 7 (.call 32 [.t 6,.c (.int .i64 10)]),mV 4 7] (.block 0 (.loop (.seq (sR [mV 8 4,oP 9 (.bin .gtr (.t 8) (.c i0))] (.cond (.t 9) .skip (.exit 0))) (.seq (.block 1 (.reg [mV 13 3,mV 14 0,oP 15 (.call 32 [.t 14,.c (.int .i64 3)]),oP 16 (.bin .add (.c (.int .i64 1)) (.t 15)),mV 17 0,oP 18 (.call 32 [.t 17,.c (.int .i64 9)]),oP 19 (.bin .add (.c (.int .i64 1)) (.t 18)),oP 20 (.build [i0,i0] [(0,(1,.t 16)),(1,(1,.t 19))]),oP 21 (.call 145 [.t 13,.t 20]),mV 12 21,eX 22 12 0,eX 23 12 1,eX 24 12 2,mV 3 22])) (.reg [mV 10 4,oP 11 (.bin .sub (.t 10) (.c (.int .i64 1))),mV 4 11])))))) (.seq (sR [mV 25 0,oP 26 (.call 32 [.t 25,.c (.int .i64 20)])] (.block 2 (sR [oP 28 (.bin .eql (.t 26) (.c i0)),mV 27 28] (.cond (.t 27) (.reg [mV 29 3,mV 30 0,oP 31 (.call 32 [.t 30,.c (.int .i64 9)]),oP 32 (.bin .add (.c (.int .i64 10)) (.t 31)),mV 33 0,oP 34 (.call 146 [.t 33]),oP 35 (.build [i0,i0,i0] [(0,(1,.t 32)),(1,(2,.t 34))]),oP 36 (.bsl 64 3 [.t 35]),oP 37 (.app 64 3 (.t 29) (.t 36)),mV 3 37]) (sR [oP 39 (.bin .eql (.t 26) (.c (.int .i64 1))),mV 38 39] (.cond (.t 38) (sR [mV 40 3,oP 41 (.len (.t 40)),oP 42 (.bin .gtr (.t 41) (.c i0))] (.cond (.t 42) (.reg [mV 43 3,mV 44 0,mV 45 3,oP 46 (.len (.t 45)),oP 47 (.call 32 [.t 44,.t 46]),mV 48 0,oP 49 (.call 146 [.t 48]),oP 50 (.iad 3 (.t 43) (.t 47)),fD 51 1 50,nP (.sto 2 (.t 51) (.t 49))]) .skip)) (sR [oP 53 (.bin .eql (.t 26) (.c (.int .i64 2))),mV 52 53] (.cond (.t 52) (sR [mV 54 3,oP 55 (.len (.t 54)),oP 56 (.bin .gtr (.t 55) (.c i0))] (.cond (.t 56) (.reg [mV 57 3,oP 58 (.slv 3 (.t 57) (some (.c (.int .i64 1))) none),mV 3 58]) .skip)) .skip)))))))) (sR [mV 59 3,mV 2 59] .ret))))
theorem dg100:Dg Tryz.prog 100 Tryz.f100 ic100 [(.t 2)]:=⟨Tryz.func100,by kernel_rfl,by kernel_rfl⟩
theorem c100 (code:B) (p:Int) (hc:code.length≤2000) (hp:0≤p∧p≤700000000):FnP Tryz.prog G 100 1 [rdH code p] [.pv 0 0] (mapQ code p 40):=by
  refine mP dg100 Tryz.ntmps100 ⟨_,_,p,[],by omega,⟨fun _ h=>(by cases h),by simp⟩,.inl ⟨rfl,rfl⟩⟩ ?_
  have fin:∀ l mm (p':Int) (m:List Pair) (n:Nat),(p≤p'∧p'≤p+40)→(PortsOk m∧m.length≤10)→getL l 2=.own n m.length→getH mm 0=.var 104 [.sl 1 (code.map byR),.int .i64 p']→getH mm n=.arr 64 3 (m.map Pair.row)→n≠0→retQ [.t 2] 1 (mapQ code p 40) .ret ⟨getL l,getH mm⟩:=fun l mm p' m n h1 h2 h3 h4 h5 h6=>by
    refine retN (.own 1 m.length) [rdH code p',.arr 64 3 (m.map Pair.row)] [(1,n)] ?_ ⟨p',m,h1,h2,.inl ⟨rfl,rfl⟩⟩ ?_ ?_ (by simp only [go_sem,rdH])
    · simp only [go_sem,h3]
    · simp only [go_sem,rdH,h4,h5]
    · simp [argH,getN,rdH];omega
  simp only [ic100,go_sem,rdH]
  with_reducible repeat' (first|rw [i64w (by omega)];try simp only [go_sem]|refine br ?_ ?_<;>intro h e<;>(try simp only [e,go_sem])<;>clear e|refine sd ?_<;>try simp only [go_sem]|fail)
  refine pkN code p 10 7 hc fun n n1 n2=>?_
  simp only [go_sem,rdH]
  have n2:=n2 (by omega)
  with_reducible repeat' (first|rw [i64w (by omega)];try simp only [go_sem]|refine br ?_ ?_<;>intro h e<;>(try simp only [e,go_sem])<;>clear e|refine sd ?_<;>try simp only [go_sem]|fail)
  refine loopN (fun a:List Pair × Int × Int=>⟨getL [(0,.pv 0 0),(3,.own 1005 a.1.length),(4,.int .i64 a.2.1)],getH [(0,.var 104 [.sl 1 (code.map byR),.int .i64 a.2.2]),(1005,.arr 64 3 (a.1.map Pair.row))]⟩) (fun a=>a.2.1.toNat)
    (fun a=>(0≤a.2.1∧a.2.1≤n)∧PortsOk a.1∧(a.1.length:Int)≤n - a.2.1∧(p≤a.2.2∧a.2.2≤p+1+2 * (n - a.2.1))) ([],n,p+1) (leQ []) ⟨by simp only;omega,fun _ h=>(by cases h),by simp,by simp only;omega⟩ ?_
  intro ⟨m,k,q⟩ ⟨h1,h2,h3,h4⟩
  simp only at h1 h2 h3 h4
  simp only [go_sem]
  by_cases hk:0<k
  · simp only [eq_true hk,go_sem]
    refine pkN code q 3 15 hc fun x x1 x2=>?_
    simp only [go_sem,rdH]
    have x2:=x2 (by omega)
    with_reducible repeat' (first|rw [i64w (by omega)];try simp only [go_sem]|refine br ?_ ?_<;>intro h e<;>(try simp only [e,go_sem])<;>clear e|refine sd ?_<;>try simp only [go_sem]|fail)
    refine pkN code (q+1) 9 18 hc fun y y1 y2=>?_
    simp only [go_sem,rdH]
    have y2:=y2 (by omega)
    with_reducible repeat' (first|rw [i64w (by omega)];try simp only [go_sem]|refine br ?_ ?_<;>intro h e<;>(try simp only [e,go_sem])<;>clear e|refine sd ?_<;>try simp only [go_sem]|fail)
    have hl:=mOut_len m ⟨1+x,1+y⟩
    have hpo:=h2.mOut (e:=⟨1+x,1+y⟩)
    refine callN (c145 m (1+x) (1+y) h2 (by omega)) [1005] [] true 21 2 (by simp only [go_sem];first|done|simp) (by simp only [go_sem];first|done|simp) (by simp) (by simp) (by simp) ?_ ?_ ?_
    · rintro res out (⟨_,rfl,rfl⟩|⟨rfl,rfl,_⟩)
      · exact ⟨by simp,by simp,.inl rfl,fun i hi=>by obtain rfl:i=0:=(by omega);simp [chH,stepOk]⟩
      · exact ⟨by simp,by simp,.inl rfl,fun i hi=>by obtain rfl:i=0:=(by omega);simp [chH,stepOk]⟩
    · intro i hi
      have:i=0∨i=1:=by omega
      rcases this with rfl|rfl<;>simp only [go_sem]
    rintro res out (⟨g1,rfl,rfl⟩|⟨rfl,rfl,g3,g4⟩)
    · simp only [go_sem]
      with_reducible repeat' (first|rw [i64w (by omega)];try simp only [go_sem]|refine br ?_ ?_<;>intro h e<;>(try simp only [e,go_sem])<;>clear e|refine sd ?_<;>try simp only [go_sem]|fail)
      refine ⟨(m,k - 1,q+1+1),by simp only;omega,⟨by simp only;omega,h2,by simp only;omega,by simp only;omega⟩,(leQ [])⟩
    · simp only [go_sem]
      with_reducible repeat' (first|rw [i64w (by omega)];try simp only [go_sem]|refine br ?_ ?_<;>intro h e<;>(try simp only [e,go_sem])<;>clear e|refine sd ?_<;>try simp only [go_sem]|fail)
      refine ⟨((mOut m ⟨1+x,1+y⟩).1,k - 1,q+1+1),by simp only;omega,⟨by simp only;omega,hpo,by simp only;omega,by simp only;omega⟩,(leQ [(1005,102101)])⟩
  · simp only [eq_false hk,go_sem]
    obtain rfl:k=0:=by omega
    have hml:m.length≤9:=by omega
    refine pkN code q 20 26 hc fun s s1 s2=>?_
    simp only [go_sem,rdH]
    have s2:=s2 (by omega)
    with_reducible repeat' (first|rw [i64w (by omega)];try simp only [go_sem]|refine br ?_ ?_<;>intro h e<;>(try simp only [e,go_sem])<;>clear e|refine sd ?_<;>try simp only [go_sem]|fail)
    · have:=0
      refine pkN code (q+1) 9 31 hc fun x x1 x2=>?_
      simp only [go_sem,rdH]
      have x2:=x2 (by omega)
      with_reducible repeat' (first|rw [i64w (by omega)];try simp only [go_sem]|refine br ?_ ?_<;>intro h e<;>(try simp only [e,go_sem])<;>clear e|refine sd ?_<;>try simp only [go_sem]|fail)
      refine callN (c146 code (q+1+1) hc (by omega)) [0] [] true 34 1 (by simp only [go_sem,rdH];first|done|simp) (by simp only [go_sem,rdH];first|done|simp) (by simp) (by simp) (by simp) ?_ ?_ ?_
      · rintro _ _ ⟨q',_,_,rfl,_⟩
        exact ⟨by simp,by simp,.inl rfl,fun i hi=>by obtain rfl:i=0:=(by omega);simp [chH,stepOk,rdH]⟩
      · intro i hi;obtain rfl:i=0:=(by omega);simp only [go_sem]
      rintro _ _ ⟨q1,q11,q12,rfl,e,e1,e2,rfl⟩
      simp only [go_sem,rdH]
      with_reducible repeat' (first|rw [i64w (by omega)];try simp only [go_sem]|refine br ?_ ?_<;>intro h e<;>(try simp only [e,go_sem])<;>clear e|refine sd ?_<;>try simp only [go_sem]|fail)
      refine retN (.own 1 (m.length+1)) [rdH code q1,.arr 64 3 ((m++[(⟨10+x,e⟩:Pair)]).map Pair.row)] [(1,1037)] (by simp only [go_sem]) ⟨q1,m++[⟨10+x,e⟩],by omega,⟨PortsOk.app (q:=⟨10+x,e⟩) h2 ⟨by simp only;omega,by simp only;omega⟩,by simp;omega⟩,.inl ⟨by simp,rfl⟩⟩ ?_ (by simp [argH,getN,rdH]) (by simp only [go_sem,rdH])
      simp only [go_sem,rdH]
      simp [Pair.row]
    · have hm0:0<m.length:=by omega
      have:=0
      refine pkN code (q+1) m.length 47 hc fun x x1 x2=>?_
      simp only [go_sem,rdH]
      have x2:=x2 (by omega)
      with_reducible repeat' (first|rw [i64w (by omega)];try simp only [go_sem]|refine br ?_ ?_<;>intro h e<;>(try simp only [e,go_sem])<;>clear e|refine sd ?_<;>try simp only [go_sem]|fail)
      refine callN (c146 code (q+1+1) hc (by omega)) [0] [] true 49 1 (by simp only [go_sem,rdH];first|done|simp) (by simp only [go_sem,rdH];first|done|simp) (by simp) (by simp) (by simp) ?_ ?_ ?_
      · rintro _ _ ⟨q',_,_,rfl,_⟩
        exact ⟨by simp,by simp,.inl rfl,fun i hi=>by obtain rfl:i=0:=(by omega);simp [chH,stepOk,rdH]⟩
      · intro i hi;obtain rfl:i=0:=(by omega);simp only [go_sem]
      rintro _ _ ⟨q1,q11,q12,rfl,e,e1,e2,rfl⟩
      simp only [go_sem,rdH]
      have hxl:x.toNat<m.length:=by omega
      with_reducible repeat' (first|rw [i64w (by omega)];try simp only [go_sem]|refine br ?_ ?_<;>intro h e<;>(try simp only [e,go_sem])<;>clear e|refine sd ?_<;>try simp only [go_sem]|fail)
      have e3:(m.set x.toNat ⟨m[x.toNat].port,e⟩).map Pair.row=(m.map Pair.row).set x.toNat [.int .i64 m[x.toNat].port,.int .i64 e.a,.int .i64 e.p]:=by rw [List.map_set];rfl
      have e4:(m.map Pair.row).getD x.toNat []=[.int .i64 m[x.toNat].port,.int .i64 m[x.toNat].ins.a,.int .i64 m[x.toNat].ins.p]:=by simp [List.getD,hxl,Pair.row]
      exact fin _ _ q1 (m.set x.toNat ⟨m[x.toNat].port,e⟩) 1005 (by omega) ⟨PortsOk.setIns h2 hxl e,by simp;omega⟩ (by simp only [go_sem];simp) (by simp only [go_sem]) (by simp only [go_sem];rw [e3,e4];rfl) (by omega)
    · exact fin _ _ (q+1) m 1005 (by omega) ⟨h2,by omega⟩ (by simp only [go_sem]) (by simp only [go_sem]) (by simp only [go_sem]) (by omega)
    · obtain ⟨a,m',rfl⟩:∃ a m',m=a :: m':=by
        cases m with
        | nil=>simp at *
        | cons a m'=>exact ⟨a,m',rfl⟩
      simp only [List.length_cons,Nat.add_sub_cancel] at *
      refine retN (.view 1 1 m'.length) [rdH code (q+1),.arr 64 3 ((a :: m').map Pair.row)] [(1,1005)] (by simp only [go_sem]) ⟨q+1,m',by omega,⟨fun p hp=>h2 p (List.mem_cons_of_mem _ hp),by omega⟩,.inr ⟨a,rfl,rfl⟩⟩ ?_ (by simp [argH,getN,rdH]) (by simp only [go_sem,rdH])
      simp only [go_sem,rdH]
    · exact fin _ _ (q+1) m 1005 (by omega) ⟨h2,by omega⟩ (by simp only [go_sem]) (by simp only [go_sem]) (by simp only [go_sem]) (by omega)
    · exact fin _ _ (q+1) m 1005 (by omega) ⟨h2,by omega⟩ (by simp only [go_sem]) (by simp only [go_sem]) (by simp only [go_sem]) (by omega)
def mapO (code:B) (p k:Int) (r:V) (o:List Hs):Prop:=∃ (p':Int) (m:List Pair),(p≤p'∧p'≤p+k)∧(PortsOk m∧m.length≤10)∧r=.own 1 m.length∧o=[rdH code p',.arr 64 3 (m.map Pair.row)]
theorem o100 (code:B) (p:Int) (hc:code.length≤2000) (hp:0≤p∧p≤700000000):FnP Tryz.prog G 100 1 [rdH code p] [.pv 0 0] (mapO code p 40) :=
  (c100 code p hc hp).tail fun r o ⟨p',m,h1,h2,h⟩=>by
    rcases h with ⟨rfl,rfl⟩|⟨q,rfl,rfl⟩
    · exact .inl ⟨p',m,h1,h2,rfl,rfl⟩
    · refine .inr ⟨1,64,3,Pair.row q,m.map Pair.row,by decide,by simp,rfl,fun i s hs hi=>?_,p',m,h1,h2,by simp,rfl⟩
      match i,hs with
      | 0,hs=>cases hs;simp [Hs.bare,rdH,V.closed]
      | 1,hs=>exact absurd rfl hi
      | i+2,hs=>simp at hs
end Go.Proofs.YtggifndkolojmaaGreatDoor.W
