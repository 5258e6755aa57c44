/- Part 6 of the proof: the walk over values, the plain model, contracts of the functions of the program. -/
import Derived.Test.YtfepdcpidkjklaaGreatDoorX05
import Derived.Test.YtfepdcpidkjklaaGreatDoorX03
import Derived.Test.YtfepdcpidkjklaaGreatDoorX04
import Derived.Test.YtfepdcpidkjklaaGreatDoorX02
set_option linter.all false
namespace Go.Proofs.YtfepdcpidkjklaaGreatDoor.W
open Go Go.RowKit Go.Proofs Go.Proofs.YtfepdcpidkjklaaGreatDoor.VL Go.Proofs.YtfepdcpidkjklaaGreatDoor.M
attribute [local congr] optK_congr guardK_congr condK_congr runT_congr runD_congr wpI_congr CallV_congr LoopI_congr pureK_congr effK_congr calK_congr stepV_congr doV_congr exN_congr exB_congr retF_congr retQ_congr gK_congr condW_congr ldK_congr stoK_congr
attribute [local go_sem] argL_cons argL_nil argH_nil argH_cons chH_getH wpI_seq wpI_reg wpI_drw wpI_ret cond_k condW_t condW_f wpI_skip wpI_block wpI_exit wpI_loop exN_n exN_r exN_e exB_n exB_r exB_h exB_m runT_k kT_e runT_nil runD_k kD_e runD_nil step_u step_k gK_t gK_f do_mv do_bino bo_add bo_sub bo_mul bo_subu bo_quo bo_rem bo_xor bo_eql bo_neq bo_lss bo_leq bo_gtr bo_geq bo_cat bo_eqs bo_nes do_pick do_call do_cal calK_f do_box do_alloc do_ldk ldK_s do_stok stoK_s do_fad do_nilc do_not do_neg do_len do_lens do_ext do_eqs do_beq do_isn do_cvi do_sls do_idx do_mn do_mx do_build do_mkf do_s2b do_b2s do_slv do_iad do_bsl do_mks do_app ev_t ev_c app_some app_none
attribute [local go_sem] List.nil_append List.cons_append List.append_nil getL_hit getL_miss getH_nil getH_hit getH_miss nm_eq ne_eq Nat.reduceEqDiff not_false_eq_true Nat.reduceAdd Nat.add_zero Nat.zero_add if_true if_false ite_true ite_false pureK_s effK_s optK_s gdV_t gdV_f gdV_s pick_b ge_iff_le gt_iff_lt cond_true cond_false fresh_k cells_agg cells_int cells_bool cells_str cells_own cells_sl cells_nils ld_pv ld_pa ld_ip ldVar_t ldVar_f ldArr_t ldArr_f ldRow_t ldRow_f ldA_s ld1_s fad_pv fad_pa fad_ip nilc_pv nilc_pa nilc_ip not_b neg_i cvi_i ext_t retF_n retF_r
attribute [local go_sem] resV_k rvs_nil rvs_t rvs_c fstO_s consO_s resK_s resL_1 resL_2 resL_3 resL_4  Option.some.injEq List.map_cons List.map_nil List.all_cons List.all_nil Bool.and_true Bool.and_self Bool.not_true Bool.not_false Option.map_some Option.map_none sls_s slsG_s loV_n loV_i hiV_n hiV_i idx_s mn_i mx_i s2b_s b2s_s bytO_s bytes_nil bytes_cons conB_s slv_sl slv_own slv_nils slvG_s slvN_s slvO_s iad_sl iadG_map take_map drop_map List.length_map iad_own iad_view iadO_a iadW_a mks_i rowO_nils rowO_sl rowO_own rowA_a eq_self appG_nils appG_own appO_a guardP_T mapA_s bld_nil mkf_nil bldF_e fill_nil fill_cons mkf_e lens_s len_nils len_sl len_own len_view isn_nile isn_erre List.getElem?_cons_zero List.getElem?_cons_succ List.length_cons List.length_nil decide_true decide_false Int.toNat_natCast Int.cast_ofNat_Int Int.reduceLT Int.reduceLE Int.reduceEq Int.reduceAdd Int.reduceSub Int.reduceMul Int.reduceNeg Int.reduceToNat List.getD_cons_zero List.getD_cons_succ not_true_eq_false not_false_eq_true Bool.false_eq_true Bool.true_eq_false reduceCtorEq
attribute [local go_sem] E.row Pc.row Pair.row Part.row Strm.row Flw.row Pk.row Door.row Conv.row World.row Ev.row rdV E.eta Pc.eta Pair.eta Part.eta Strm.eta Pk.eta Flw.eta Conv.eta Door.eta World.eta Ev.eta
attribute [local go_sem] sub_ok st_pv st_pa stVar_v stArr_a Nat.le_refl List.drop_zero List.drop_succ_cons List.take_succ_cons List.take_zero setR Nat.reduceLeDiff
attribute [local go_sem] wk_bot wk2_bot wk1_bot wk_undef wk_tup_e wk2_agg_e wk_agg_e wk1_fn_e wk2_fn_e wk_fn_e wkl_nil wkl_cons wkh_var_e wkh_arr_e wkh_fresh_e wkh_dead_v wkh_dead_a wkh_dead_d wk0_undef wk0_int wk0_bool wk0_str wk0_nils wk0_nils_sl wk0_nilp wk0_nile wk0_erre wk0_sl wk0_iptr wk0_own wk0_view wk0_pv wk0_pa fzA_a fzW_a fzP_v wk0_own_sl wk0_view_sl wk0_pv_iptr WkS_nil WkS_cons WkN_nil WkN_cons nonB_nil nonB_cons getN_nil getN_hit getN_miss pinOk_0 pinOk_s and_true true_and and_self
attribute [local go_sem] bot_int one_int unt_int clo_int bot_bool one_bool unt_bool clo_bool bot_str one_str unt_str clo_str bot_nils one_nils unt_nils clo_nils bot_nilp one_nilp unt_nilp clo_nilp bot_nile one_nile unt_nile clo_nile bot_erre one_erre unt_erre clo_erre bot_raw one_raw unt_raw clo_raw bot_sl one_sl unt_sl clo_sl bot_own one_own unt_own clo_own bot_view one_view unt_view clo_view bot_pv one_pv unt_pv clo_pv bot_pa one_pa unt_pa clo_pa bot_iptr one_iptr unt_iptr clo_iptr unt_agg unt_fn one_fn
attribute [local go_sem] rn_tup rn_agg rn2_agg rn_fn rn2_fn rnfn1 rn_bot rn2_bot rn1_bot rn0_int rn0_bool rn0_str rn0_nils rn0_nilp rn0_nile rn0_erre rn0_sl rn0_iptr rn0_own rn0_view rn0_pv rn0_pa hrn_var hrn_arr hrn_dead outU_nil outU_cons deads_nil deads_cons bk_ge bk_lt nsF_0 nsF_s chH_0 chH_s chH_n newN_e andB_s eqR_nil eqR_i eqR_b eqR_s mapX_f mapX_t eqs_a beq_f beq_t live_arr live_var nsl_nil nsl_cons Nat.reduceMul Nat.reduceLT Nat.zero_le Nat.not_lt_zero
attribute [local go_sem] mV lD lA fD bN eX oP nP sR i0 s0
def ic78:IC:=sR [oP 2 (.box 26 (.t 0)),oP 3 (.box 30 (.t 1)),oP 4 (.alloc 26 [.nils,.nils]),oP 5 (.alloc 30 [i0,i0,i0,i0,i0,i0,s0]),oP 6 (.mv (.c (.bool false)))] (.seq (.block 0 (sR [fD 8 1 3,lA 9 2 8,oP 10 (.call 50 [.t 9]),mV 11 10,⟨some 12,some (11,true),.fad 3 (.t 3)⟩,⟨some 13,some (11,true),.ld 2 true (.t 12)⟩,⟨some 14,some (11,true),.call 26 [.t 13]⟩,oP 15 (.pick (.t 11) (.t 14) (.c (.bool false))),mV 7 15] (.cond (.t 7) (sR [lA 16 2 2,lA 17 7 3,oP 18 (.call 51 [.t 16,.t 17]),eX 19 18 0,eX 20 18 1,eX 21 18 2,nP (.sto 2 (.t 4) (.t 19)),nP (.sto 7 (.t 5) (.t 20)),mV 6 21] .ret) (sR [fD 23 1 3,lA 24 2 23,oP 25 (.call 26 [.t 24]),mV 26 25,⟨some 27,some (26,true),.fad 3 (.t 3)⟩,⟨some 28,some (26,true),.ld 2 true (.t 27)⟩,⟨some 29,some (26,true),.call 27 [.t 28]⟩,oP 30 (.pick (.t 26) (.t 29) (.c (.bool false))),mV 22 30] (.cond (.t 22) (sR [lA 31 2 2,lA 32 7 3,oP 33 (.call 61 [.t 31,.t 32]),eX 34 33 0,eX 35 33 1,eX 36 33 2,nP (.sto 2 (.t 4) (.t 34)),nP (.sto 7 (.t 5) (.t 35)),mV 6 36] .ret) .skip))))) (sR [lA 37 2 2,oP 38 (.build [i0,i0,i0,i0,i0,i0,s0] []),nP (.sto 2 (.t 4) (.t 37)),nP (.sto 7 (.t 5) (.t 38)),oP 6 (.mv (.c (.bool false)))] .ret))
theorem dg78:Dg Tryz.prog 78 Tryz.f78 ic78 [(.cell 4 2 true),(.cell 5 7 true),(.t 6)]:=⟨Tryz.func78,by kernel_rfl,by kernel_rfl⟩
theorem c78 (d:Door) (p:Pk) (hd:doorOk d=true) (hl:d.flows.length≤3) (hp:PkP p):FnP Tryz.prog G 78 0 [.arr 82 3 (d.map.map Pair.row),.arr 46 8 (d.flows.map Flw.row)]
    [.agg [.own 0 d.map.length,.own 1 d.flows.length],.agg [.int .i64 p.kind,.int .i64 p.frm.a,.int .i64 p.frm.p,.int .i64 p.to.a,.int .i64 p.to.p,.int .i64 p.at_,.str p.text]] (doorA (dPass d p)):=by
  refine mP dg78 Tryz.ntmps78 ⟨_,_,rfl,rfl⟩ ?_
  simp only [ic78,go_sem]
  with_reducible repeat' (first|refine br ?_ ?_<;>intro h e<;>(try simp only [e,go_sem])<;>clear e|rw [i64w (by omega)]|refine sd ?_<;>try simp only [go_sem]|(first|refine cr (c50 ..) ?_|refine cr (c26 ..) ?_|refine cr (c27 ..) ?_)<;>try simp only [go_sem]|fail)
  all_goals first
    | (have hx:dPass d p=(d,none):=by simp_all [dPass,Pk.outward,Pk.inward]
       refine doorRet (q:=none) 0 1 hx ?_ ?_ ?_ ?_ ?_ ?_ ?_ (by decide)<;>simp only [go_sem,Option.isSome_none,Option.getD_none,Pk.zero,E.zero])
    | (have hx:dPass d p=dOut d p:=by simp_all [dPass,Pk.outward,Pk.inward]
       refine callU (c51 d p hd hl hp (by assumption) (by assumption)) [0,1] [] 18 2 (by simp only [go_sem];first|done|simp) (by simp only [go_sem];first|done|simp) (by simp) (by simp) (by rintro _ _ ⟨rfl,rfl⟩;simp) (by intro i hi;rcases (show i=0∨i=1 by omega) with rfl|rfl<;>simp only [go_sem]) ?_
       rintro _ _ ⟨rfl,rfl⟩
       simp only [go_sem]
       refine doorRet (d:=(dOut d p).1) (q:=(dOut d p).2) 101800 101801 hx ?_ ?_ ?_ ?_ ?_ ?_ ?_ (by decide)<;>simp only [go_sem])
    | (have hx:dPass d p=dIn d p:=by simp_all [dPass,Pk.outward,Pk.inward]
       refine callU (c61 d p hd hp (by assumption)) [0,1] [] 33 2 (by simp only [go_sem];first|done|simp) (by simp only [go_sem];first|done|simp) (by simp) (by simp) (by rintro _ _ ⟨rfl,rfl⟩;simp) (by intro i hi;rcases (show i=0∨i=1 by omega) with rfl|rfl<;>simp only [go_sem]) ?_
       rintro _ _ ⟨rfl,rfl⟩
       simp only [go_sem]
       refine doorRet (d:=(dIn d p).1) (q:=(dIn d p).2) 103300 103301 hx ?_ ?_ ?_ ?_ ?_ ?_ ?_ (by decide)<;>simp only [go_sem])
theorem copyB {d:Door} (hd:doorOk d=true):∀ f∈d.flows,f.up.parts.length≤2000000∧f.down.parts.length≤2000000:=fun f hf=>by
  obtain ⟨k,hk⟩:=List.mem_iff_getElem?.1 hf
  obtain ⟨_,_,h1,h2,_⟩:=flow_at hd hk
  have:=(strmOk_B h1).2.1
  have:=(strmOk_B h2).2.1
  omega
def ic17:IC:=sR [oP 2 (.box 26 (.t 0)),oP 3 (.box 30 (.t 1)),oP 4 (.alloc 26 [.nils,.nils]),oP 5 (.alloc 30 [i0,i0,i0,i0,i0,i0,s0]),oP 6 (.mv (.c (.bool false)))] (.seq (sR [lA 7 2 2,oP 8 (.call 24 [.t 7]),oP 9 (.un .not (.t 8)),mV 10 9,⟨some 11,some (10,false),.ld 7 true (.t 3)⟩,⟨some 12,some (10,false),.call 25 [.t 11]⟩,⟨some 13,some (10,false),.un .not (.t 12)⟩,oP 14 (.pick (.t 10) (.c (.bool true)) (.t 13)),mV 15 14,⟨some 16,some (15,false),.fad 1 (.t 3)⟩,⟨some 17,some (15,false),.ld 2 true (.t 16)⟩,⟨some 18,some (15,false),.call 50 [.t 17]⟩,⟨some 19,some (15,false),.un .not (.t 18)⟩,oP 20 (.pick (.t 15) (.c (.bool true)) (.t 19)),mV 21 20,⟨some 22,some (21,false),.fad 3 (.t 3)⟩,⟨some 23,some (21,false),.ld 2 true (.t 22)⟩,⟨some 24,some (21,false),.call 26 [.t 23]⟩,⟨some 25,some (21,false),.un .not (.t 24)⟩,oP 26 (.pick (.t 21) (.c (.bool true)) (.t 25))] (.cond (.t 26) (sR [oP 27 (.build [.nils,.nils] []),oP 28 (.build [i0,i0,i0,i0,i0,i0,s0] []),nP (.sto 2 (.t 4) (.t 27)),nP (.sto 7 (.t 5) (.t 28)),oP 6 (.mv (.c (.bool false)))] .ret) .skip)) (.seq (.drw [0,1,0,7,15,15,15,127,255,511] [(0,lA 29 2 2),(1,oP 30 (.call 52 [.t 29])),(2,lA 31 7 3),(3,oP 32 (.call 51 [.t 30,.t 31])),(4,eX 33 32 0),(5,eX 34 32 1),(6,eX 35 32 2),(7,nP (.sto 2 (.t 4) (.t 33))),(8,nP (.sto 7 (.t 5) (.t 34))),(9,mV 6 35)]) .ret))
theorem dg17:Dg Tryz.prog 17 Tryz.f17 ic17 [(.cell 4 2 true),(.cell 5 7 true),(.t 6)]:=⟨Tryz.func17,by kernel_rfl,by kernel_rfl⟩
theorem c17 (d:Door) (p:Pk) (hb:DB d) (hl:doorOk d=true→d.flows.length≤3) (ht:p.text.length≤2000000):FnR Tryz.prog G 17 [.agg [.sl 3 (d.map.map Pair.row),.sl 8 (d.flows.map Flw.row)],.agg [.int .i64 p.kind,.int .i64 p.frm.a,.int .i64 p.frm.p,.int .i64 p.to.a,.int .i64 p.to.p,.int .i64 p.at_,.str p.text]]
    (.tup [.agg [.sl 3 ((doorOut d p).1.map.map Pair.row),.sl 8 ((doorOut d p).1.flows.map Flw.row)],.agg (Pk.row ((doorOut d p).2.getD .zero)),.bool (doorOut d p).2.isSome]):=by
  refine mF dg17 Tryz.ntmps17 ?_
  simp only [ic17,go_sem]
  have c1:=c24 d hb
  have c2:=c25 p ht
  with_reducible repeat' (first|refine br ?_ ?_<;>intro h e<;>(try simp only [e,go_sem])<;>clear e|rw [i64w (by omega)]|refine sd ?_<;>try simp only [go_sem]|(first|refine cr (c1 ..) ?_|refine cr (c2 ..) ?_|refine cr (c50 ..) ?_|refine cr (c26 ..) ?_)<;>try simp only [go_sem]|fail)
  all_goals first
    | (have hx:doorOut d p=(.zero,none):=by simp_all [doorOut,Pk.outward]
       rw [hx];simp [Door.zero,Pk.zero,E.zero];done)
    | skip
  have hd:doorOk d=true:=by simp_all
  have hpk:pkOk p=true:=by simp_all
  have hfi:p.frm.inside=true:=by simp_all
  have hx:doorOut d p=dOut d p:=by simp_all [doorOut,Pk.outward]
  rw [hx]
  refine callO (c52 (d.map.map Pair.row) d.flows (by simp;exact hb.1) (by have:=hl hd;omega) (copyB hd)) [] 30 2 (by simp only [go_sem];first|done|simp) (by simp) (by rintro _ _ ⟨rfl,rfl⟩;simp) (by intro i hi;rcases (show i=0∨i=1 by omega) with rfl|rfl<;>simp only [go_sem]) ?_
  rintro _ _ ⟨rfl,rfl⟩
  simp only [go_sem]
  with_reducible repeat' (first|refine br ?_ ?_<;>intro h e<;>(try simp only [e,go_sem])<;>clear e|rw [i64w (by omega)]|refine sd ?_<;>try simp only [go_sem]|fail)
  refine callU (c51 d p hd (hl hd) (pkOk_P hpk) hfi (by assumption)) [103000,103001] [] 32 2 (by simp only [go_sem];first|done|simp) (by simp only [go_sem];first|done|simp) (by simp) (by simp) (by rintro _ _ ⟨rfl,rfl⟩;simp) (by intro i hi;rcases (show i=0∨i=1 by omega) with rfl|rfl<;>simp only [go_sem]) ?_
  rintro _ _ ⟨rfl,rfl⟩
  simp only [go_sem]
  with_reducible repeat' (first|refine br ?_ ?_<;>intro h e<;>(try simp only [e,go_sem])<;>clear e|rw [i64w (by omega)]|refine sd ?_<;>try simp only [go_sem]|fail)
def passA (x:M.World × Option Pk) (r:V) (out:List Hs):Prop:=r=.tup [.agg [.own 0 x.1.convs.length,.own 1 x.1.door.map.length,.own 2 x.1.door.flows.length,.own 3 x.1.nets.length],.agg (Pk.row (x.2.getD .zero)),.bool x.2.isSome]∧out=[.arr 107 10 (x.1.convs.map Conv.row),.arr 82 3 (x.1.door.map.map Pair.row),.arr 46 8 (x.1.door.flows.map Flw.row),.arr 30 7 (x.1.nets.map Pk.row)]
theorem passRet {x:M.World × Option Pk} {w:M.World} {q:Option Pk} {l:List (Nat × V)} {mm:List (Nat × Hs)} (n0 n1 n2 n3:Nat) (hx:x=(w,q)) (h4:getL l 4=.pv 1004 0) (h5:getL l 5=.pv 1005 0) (h6:getL l 6=.bool q.isSome)
    (m4:getH mm 1004=.var 66 [.own n0 w.convs.length,.own n1 w.door.map.length,.own n2 w.door.flows.length,.own n3 w.nets.length]) (m5:getH mm 1005=.var 30 (Pk.row (q.getD .zero)))
    (m0:getH mm n0=.arr 107 10 (w.convs.map Conv.row)) (m1:getH mm n1=.arr 82 3 (w.door.map.map Pair.row)) (m2:getH mm n2=.arr 46 8 (w.door.flows.map Flw.row)) (m3:getH mm n3=.arr 30 7 (w.nets.map Pk.row))
    (hne:[n0,n1,n2,n3].Nodup):retQ [.cell 4 4 true,.cell 5 7 true,.t 6] 0 (passA x) .ret ⟨getL l,getH mm⟩:=by
  subst hx
  refine retN (.tup [.agg [.own 0 w.convs.length,.own 1 w.door.map.length,.own 2 w.door.flows.length,.own 3 w.nets.length],.agg (Pk.row (q.getD .zero)),.bool q.isSome]) [.arr 107 10 (w.convs.map Conv.row),.arr 82 3 (w.door.map.map Pair.row),.arr 46 8 (w.door.flows.map Flw.row),.arr 30 7 (w.nets.map Pk.row)] [(0,n0),(1,n1),(2,n2),(3,n3)] ?_ ⟨rfl,rfl⟩ ?_ (by simpa [argH,getN] using hne) (by simp only [go_sem])
  · simp only [go_sem,h4,h5,h6,m4,m5]
  · simp only [go_sem,m0,m1,m2,m3]
def ic173:IC:=sR [oP 3 (.box 107 (.t 0)),oP 5 (.box 30 (.t 2)),oP 6 (.alloc 107 [i0,i0,i0,i0,s0,s0,i0,i0,s0,s0]),oP 7 (.alloc 30 [i0,i0,i0,i0,i0,i0,s0]),oP 8 (.mv (.c (.bool false)))] (sR [fD 10 3 5,lA 11 2 10,fD 12 1 5,lA 13 2 12,oP 14 (.build [i0,i0,i0,i0,i0,i0,s0] [(0,(1,.c (.int .i64 2))),(1,(2,.t 11)),(3,(2,.t 13))]),oP 9 (.alloc 30 [i0,i0,i0,i0,i0,i0,s0]),nP (.sto 7 (.t 9) (.t 14))] (.seq (sR [mV 15 1,mV 16 15,⟨some 17,some (16,true),.fad 1 (.t 5)⟩,⟨some 18,some (16,true),.ld 2 true (.t 17)⟩,⟨some 19,some (16,true),.fad 2 (.t 3)⟩,⟨some 20,some (16,true),.ld 2 true (.t 19)⟩,⟨some 21,some (16,true),.eqs true [.i,.i] (.t 18) (.t 20)⟩,⟨some 22,some (16,true),.mv (.t 21)⟩,⟨some 23,some (22,false),.fad 3 (.t 5)⟩,⟨some 24,some (22,false),.ld 2 true (.t 23)⟩,⟨some 25,some (22,false),.fad 0 (.t 3)⟩,⟨some 26,some (22,false),.ld 2 true (.t 25)⟩,⟨some 27,some (22,false),.eqs true [.i,.i] (.t 24) (.t 26)⟩,⟨some 28,some (16,true),.pick (.t 22) (.c (.bool true)) (.t 27)⟩,oP 29 (.pick (.t 16) (.t 28) (.c (.bool false))),mV 30 29,⟨some 31,some (30,false),.mv (.t 1)⟩,⟨some 32,some (30,false),.un .not (.t 31)⟩,⟨some 33,some (30,false),.mv (.t 32)⟩,⟨some 34,some (33,true),.fad 3 (.t 5)⟩,⟨some 35,some (33,true),.ld 2 true (.t 34)⟩,⟨some 36,some (33,true),.fad 2 (.t 3)⟩,⟨some 37,some (33,true),.ld 2 true (.t 36)⟩,⟨some 38,some (33,true),.eqs true [.i,.i] (.t 35) (.t 37)⟩,⟨some 39,some (33,true),.mv (.t 38)⟩,⟨some 40,some (39,false),.fad 1 (.t 5)⟩,⟨some 41,some (39,false),.ld 2 true (.t 40)⟩,⟨some 42,some (39,false),.call 27 [.t 41]⟩,⟨some 43,some (39,false),.un .not (.t 42)⟩,⟨some 44,some (33,true),.pick (.t 39) (.c (.bool true)) (.t 43)⟩,⟨some 45,some (30,false),.pick (.t 33) (.t 44) (.c (.bool false))⟩,oP 46 (.pick (.t 30) (.c (.bool true)) (.t 45))] (.cond (.t 46) (sR [lA 47 10 3,oP 48 (.build [i0,i0,i0,i0,i0,i0,s0] []),nP (.sto 10 (.t 6) (.t 47)),nP (.sto 7 (.t 7) (.t 48)),oP 8 (.mv (.c (.bool false)))] .ret) .skip)) (.seq (.block 0 (sR [fD 60 0 5,lD 61 1 60,oP 62 (.bin .eql (.t 61) (.c (.int .i64 1))),mV 63 62,⟨some 64,some (63,true),.mv (.t 1)⟩,oP 65 (.pick (.t 63) (.t 64) (.c (.bool false))),mV 59 65] (.cond (.t 59) (sR [fD 67 9 3,lD 68 1 67,fD 69 5 5,lD 70 1 69,fD 71 6 5,lD 72 1 71,oP 73 (.call 178 [.t 68,.t 70,.t 72]),mV 66 73,eX 74 66 0,eX 75 66 1,fD 76 9 3,nP (.sto 1 (.t 76) (.t 74))] (sR [fD 77 9 3,lD 78 1 77,oP 79 (.lens (.t 78)),fD 80 5 9,nP (.sto 1 (.t 80) (.t 79))] (.seq (.drw [0,0,1,7,15] [(0,lA 81 10 3),(1,lA 82 7 9),(2,nP (.sto 10 (.t 6) (.t 81))),(3,nP (.sto 7 (.t 7) (.t 82))),(4,oP 8 (.mv (.c (.bool true))))]) .ret))) (sR [fD 84 0 5,lD 85 1 84,oP 86 (.bin .eql (.t 85) (.c (.int .i64 1))),mV 83 86] (.cond (.t 83) (sR [fD 88 8 3,lD 89 1 88,fD 90 5 5,lD 91 1 90,fD 92 6 5,lD 93 1 92,oP 94 (.call 178 [.t 89,.t 91,.t 93]),mV 87 94,eX 95 87 0,eX 96 87 1,fD 97 8 3,nP (.sto 1 (.t 97) (.t 95))] (sR [fD 98 8 3,lD 99 1 98,oP 100 (.lens (.t 99)),fD 101 5 9,nP (.sto 1 (.t 101) (.t 100))] (.seq (.drw [0,0,1,7,15] [(0,lA 102 10 3),(1,lA 103 7 9),(2,nP (.sto 10 (.t 6) (.t 102))),(3,nP (.sto 7 (.t 7) (.t 103))),(4,oP 8 (.mv (.c (.bool true))))]) .ret))) (sR [mV 105 1,mV 104 105] (.cond (.t 104) (.reg [fD 106 6 3,lD 107 1 106,fD 108 5 5,lD 109 1 108,fD 110 4 3,lD 111 1 110,oP 112 (.lens (.t 111)),oP 113 (.mn (.t 109) (.t 112)),oP 114 (.mx (.t 107) (.t 113)),fD 115 6 3,nP (.sto 1 (.t 115) (.t 114))]) (.reg [fD 49 7 3,lD 50 1 49,fD 51 5 5,lD 52 1 51,fD 53 5 3,lD 54 1 53,oP 55 (.lens (.t 54)),oP 56 (.mn (.t 52) (.t 55)),oP 57 (.mx (.t 50) (.t 56)),fD 58 7 3,nP (.sto 1 (.t 58) (.t 57))])))))))) (sR [lA 116 10 3,oP 117 (.build [i0,i0,i0,i0,i0,i0,s0] []),nP (.sto 10 (.t 6) (.t 116)),nP (.sto 7 (.t 7) (.t 117)),oP 8 (.mv (.c (.bool false)))] .ret))))
theorem dg173:Dg Tryz.prog 173 Tryz.f173 ic173 [(.cell 6 10 true),(.cell 7 7 true),(.t 8)]:=⟨Tryz.func173,by kernel_rfl,by kernel_rfl⟩
theorem c173 (c:Conv) (b:Bool) (p:Pk) (hc:CvB c) (hp:PkP p):FnR Tryz.prog G 173 [.agg [.int .i64 c.ins.a,.int .i64 c.ins.p,.int .i64 c.out.a,.int .i64 c.out.p,.str c.up,.str c.down,.int .i64 c.upAck,.int .i64 c.downAck,.str c.upGot,.str c.downGot],.bool b,.agg [.int .i64 p.kind,.int .i64 p.frm.a,.int .i64 p.frm.p,.int .i64 p.to.a,.int .i64 p.to.p,.int .i64 p.at_,.str p.text]]
    (.tup [.agg (Conv.row (hear c b p).1),.agg (Pk.row ((hear c b p).2.getD .zero)),.bool (hear c b p).2.isSome]):=by
  refine mF dg173 Tryz.ntmps173 ?_
  have h1:=hp.at_
  have h2:=hp.len
  have h3:=hc.upGot
  have h4:=hc.downGot
  have g1:=c178 c.upGot p.at_ p.text (by omega) (by omega) (by omega)
  have g2:=c178 c.downGot p.at_ p.text (by omega) (by omega) (by omega)
  simp only [ic173,go_sem]
  cases b<;>simp only [go_sem,E.ext_iff']
  all_goals
    with_reducible repeat' (first|refine br ?_ ?_<;>intro h e<;>(try simp only [e,go_sem,E.ext_iff'])<;>clear e|rw [i64w (by omega)]|refine sd ?_<;>try simp only [go_sem,E.ext_iff']|(first|refine cr (c27 ..) ?_|refine cr (g1 ..) ?_|refine cr (g2 ..) ?_)<;>try simp only [go_sem,E.ext_iff']|fail)
  all_goals clear g1 g2
  all_goals first
    | (simp_all [hear,Pk.zero,E.zero];done)
    | (have hk:p.kind=2:=by have:=hp.kd;omega
       simp_all [hear,Pk.zero,E.zero];done)
def ic166:IC:=sR [oP 2 (.box 66 (.t 0)),oP 3 (.box 30 (.t 1)),oP 4 (.alloc 66 [.nils,.nils,.nils,.nils]),oP 5 (.alloc 30 [i0,i0,i0,i0,i0,i0,s0]),oP 6 (.mv (.c (.bool false)))] (.seq (sR [oP 7 (.mv (.c i0))] (.block 0 (.loop (.seq (sR [mV 14 7,fD 15 0 2,lD 16 1 15,oP 17 (.len (.t 16)),bN 18 .lss 14 17] (.cond (.t 18) .skip (.exit 0))) (.seq (.block 1 (sR [fD 21 0 2,lD 22 1 21,mV 23 7,oP 24 (.iad 10 (.t 22) (.t 23)),lA 25 10 24,oP 8 (.alloc 107 [i0,i0,i0,i0,s0,s0,i0,i0,s0,s0]),nP (.sto 10 (.t 8) (.t 25))] (sR [fD 26 3 3,lA 27 2 26,fD 28 0 8,lA 29 2 28,oP 30 (.eqs false [.i,.i] (.t 27) (.t 29)),mV 31 30,⟨some 32,some (31,true),.fad 1 (.t 3)⟩,⟨some 33,some (31,true),.ld 2 true (.t 32)⟩,⟨some 34,some (31,true),.fad 2 (.t 8)⟩,⟨some 35,some (31,true),.ld 2 true (.t 34)⟩,⟨some 36,some (31,true),.eqs false [.i,.i] (.t 33) (.t 35)⟩,oP 37 (.pick (.t 31) (.t 36) (.c (.bool false))),mV 9 37] (.seq (.drw [0,1,0,4,15,31,63,127,255,511,1023,2047,2047,6143,16383,2047,34815,100351,262143,524287,1048575] [(0,fD 38 3 3),(1,lA 39 2 38),(2,fD 40 2 8),(3,lA 41 2 40),(4,oP 42 (.eqs false [.i,.i] (.t 39) (.t 41))),(5,mV 43 42),(6,⟨some 44,some (43,true),.fad 1 (.t 3)⟩),(7,⟨some 45,some (43,true),.ld 2 true (.t 44)⟩),(8,⟨some 46,some (43,true),.call 27 [.t 45]⟩),(9,oP 47 (.pick (.t 43) (.t 46) (.c (.bool false)))),(10,mV 48 47),(11,⟨some 49,some (48,true),.ld 4 true (.t 2)⟩),(12,⟨some 50,some (48,true),.fad 0 (.t 8)⟩),(13,⟨some 51,some (48,true),.ld 2 true (.t 50)⟩),(14,⟨some 52,some (48,true),.call 90 [.t 49,.t 51]⟩),(15,⟨some 53,some (48,true),.fad 1 (.t 3)⟩),(16,⟨some 54,some (48,true),.fad 1 (.t 53)⟩),(17,⟨some 55,some (48,true),.ld 1 false (.t 54)⟩),(18,⟨some 56,some (48,true),.bin .eql (.t 52) (.t 55)⟩),(19,oP 57 (.pick (.t 48) (.t 56) (.c (.bool false)))),(20,mV 10 57)]) (sR [mV 58 9,mV 59 58,⟨some 60,some (59,false),.mv (.t 10)⟩,oP 61 (.pick (.t 59) (.c (.bool true)) (.t 60))] (.cond (.t 61) (sR [lA 63 10 8,mV 64 9,lA 65 7 3,oP 66 (.call 173 [.t 63,.t 64,.t 65]),mV 62 66,eX 67 62 0,eX 68 62 1,eX 69 62 2,oP 11 (.alloc 107 [i0,i0,i0,i0,s0,s0,i0,i0,s0,s0]),oP 12 (.alloc 30 [i0,i0,i0,i0,i0,i0,s0]),nP (.sto 10 (.t 11) (.t 67)),nP (.sto 7 (.t 12) (.t 68)),mV 13 69] (sR [fD 70 0 2,lD 71 1 70,mV 72 7,lA 73 10 11,oP 74 (.iad 10 (.t 71) (.t 72)),nP (.sto 10 (.t 74) (.t 73))] (.seq (.drw [0,0,0,1,11,31] [(0,lA 75 4 2),(1,lA 76 7 12),(2,mV 77 13),(3,nP (.sto 4 (.t 4) (.t 75))),(4,nP (.sto 7 (.t 5) (.t 76))),(5,mV 6 77)]) .ret))) .skip)))))) (.reg [mV 19 7,oP 20 (.bin .add (.t 19) (.c (.int .i64 1))),mV 7 20])))))) (sR [lA 78 4 2,oP 79 (.build [i0,i0,i0,i0,i0,i0,s0] []),nP (.sto 4 (.t 4) (.t 78)),nP (.sto 7 (.t 5) (.t 79)),oP 6 (.mv (.c (.bool false)))] .ret))
theorem dg166:Dg Tryz.prog 166 Tryz.f166 ic166 [(.cell 4 4 true),(.cell 5 7 true),(.t 6)]:=⟨Tryz.func166,by kernel_rfl,by kernel_rfl⟩
theorem c166 (w:M.World) (p:Pk) (hw:WI w) (hp:PkP p):FnP Tryz.prog G 166 0 [.arr 107 10 (w.convs.map Conv.row),.arr 82 3 (w.door.map.map Pair.row),.arr 46 8 (w.door.flows.map Flw.row),.arr 30 7 (w.nets.map Pk.row)] [.agg [.own 0 w.convs.length,.own 1 w.door.map.length,.own 2 w.door.flows.length,.own 3 w.nets.length],.agg [.int .i64 p.kind,.int .i64 p.frm.a,.int .i64 p.frm.p,.int .i64 p.to.a,.int .i64 p.to.p,.int .i64 p.at_,.str p.text]] (passA (hostR w p)):=by
  refine mP dg166 Tryz.ntmps166 ⟨_,_,rfl,rfl⟩ ?_
  have hml:=(mapOk_ports (doorOk_iff.1 hw.door).1).2
  have hcl:=hw.cl
  simp only [ic166,go_sem]
  refine loopN (fun k:Nat=>⟨getL [(2,.pv 1002 0),(3,.pv 1003 0),(4,.pv 1004 0),(5,.pv 1005 0),(7,.int .i64 (k:Int))],getH [(1002,.var 66 [.own 0 w.convs.length,.own 1 w.door.map.length,.own 2 w.door.flows.length,.own 3 w.nets.length]),(1003,.var 30 [.int .i64 p.kind,.int .i64 p.frm.a,.int .i64 p.frm.p,.int .i64 p.to.a,.int .i64 p.to.p,.int .i64 p.at_,.str p.text]),(1004,.var 66 [.nils,.nils,.nils,.nils]),(1005,.var 30 [.int .i64 0,.int .i64 0,.int .i64 0,.int .i64 0,.int .i64 0,.int .i64 0,.str []]),(0,.arr 107 10 (w.convs.map Conv.row)),(1,.arr 82 3 (w.door.map.map Pair.row)),(2,.arr 46 8 (w.door.flows.map Flw.row)),(3,.arr 30 7 (w.nets.map Pk.row))]⟩)
    (fun k=>w.convs.length - k) (fun k=>k≤w.convs.length∧(w.convs.take k).any (matchC w p)=false) 0 (leQ []) ⟨Nat.zero_le _,by simp⟩ ?_
  intro k ⟨hk,ha⟩
  simp only [go_sem]
  by_cases h:(k:Int)<w.convs.length
  · have hil:k<w.convs.length:=by omega
    have hg:w.convs.getD k default=w.convs[k]:=by simp [List.getD,hil]
    have hat:=hostR_at (w:=w) (p:=p) hil ha
    have hstep:matchC w p w.convs[k]=false→(w.convs.take (k+1)).any (matchC w p)=false:=fun hm=>by
      rw [List.take_add_one,List.getElem?_eq_getElem hil]
      simp only [Option.toList_some,List.any_append,ha,List.any_cons,List.any_nil,Bool.or_false,Bool.false_or,hm]
    have hB:=convOk_B (hw.cv _ (List.getElem_mem hil))
    rw [matchC_e] at hat hstep
    simp only [eq_comm (a:=p.frm.p)] at hat hstep
    simp only [eq_true h,go_sem]
    generalize hc:w.convs[k]=c at *
    generalize hinw:(decide (p.to=c.ins) && decide (p.frm=c.out))=inw at *
    have g1:=fun b=>c173 c b p hB hp
    have g2:=c90 w c.ins (by omega)
    with_reducible repeat' (first|refine br ?_ ?_<;>intro h e<;>(try simp only [e,go_sem,getD_mp hil,hg,hc,E.ext_iff'])<;>clear e|rw [i64w (by omega)]|refine sd ?_<;>try simp only [go_sem,getD_mp hil,hg,hc,E.ext_iff']|(first|refine cr (c27 ..) ?_|refine cf (g2 ..) [0,1,2,3] ?_|refine cr (g1 ..) ?_)<;>try simp only [go_sem,getD_mp hil,hg,hc,E.ext_iff']|fail)
    all_goals clear g1 g2
    all_goals first
      | (refine ⟨k+1,by omega,⟨by omega,hstep ?_⟩,(leQ [])⟩
         simp_all;done)
      | (have hh:=hat (by simp_all)
         have hi:inw=true:=by simp_all
         rw [hi] at hh
         refine passRet (w:={ w with convs:=w.convs.set k (hear c true p).1 }) (q:=(hear c true p).2) 0 1 2 3 hh ?_ ?_ ?_ ?_ ?_ ?_ ?_ ?_ ?_ (by decide)
         all_goals simp only [go_sem,List.map_set,List.length_set,getD_mp hil,hg]
         done)
      | (have hh:=hat (by simp_all)
         have hi:inw=false:=by simp_all
         rw [hi] at hh
         refine passRet (w:={ w with convs:=w.convs.set k (hear c false p).1 }) (q:=(hear c false p).2) 0 1 2 3 hh ?_ ?_ ?_ ?_ ?_ ?_ ?_ ?_ ?_ (by decide)
         all_goals simp only [go_sem,List.map_set,List.length_set,getD_mp hil,hg]
         done)
  · simp only [eq_false h,go_sem]
    have:k=w.convs.length:=by omega
    subst this
    rw [List.take_length] at ha
    rw [hostR_no ha]
    refine passRet (q:=none) 0 1 2 3 rfl ?_ ?_ ?_ ?_ ?_ ?_ ?_ ?_ ?_ (by decide)<;>simp only [go_sem,Option.isSome_none,Option.getD_none,Pk.zero,E.zero]
def ic156:IC:=sR [oP 2 (.box 66 (.t 0)),oP 3 (.box 30 (.t 1)),oP 4 (.alloc 66 [.nils,.nils,.nils,.nils]),oP 5 (.alloc 30 [i0,i0,i0,i0,i0,i0,s0]),oP 6 (.mv (.c (.bool false)))] (.seq (sR [fD 10 3 3,lA 11 2 10,oP 12 (.call 27 [.t 11]),mV 13 12,⟨some 14,some (13,false),.fad 1 (.t 3)⟩,⟨some 15,some (13,false),.ld 2 true (.t 14)⟩,⟨some 16,some (13,false),.call 50 [.t 15]⟩,oP 17 (.pick (.t 13) (.c (.bool true)) (.t 16))] (.cond (.t 17) (sR [fD 19 1 2,lA 20 2 19,lA 21 7 3,oP 22 (.call 78 [.t 20,.t 21]),mV 18 22,eX 23 18 0,eX 24 18 1,eX 25 18 2,oP 7 (.alloc 26 [.nils,.nils]),oP 8 (.alloc 30 [i0,i0,i0,i0,i0,i0,s0]),nP (.sto 2 (.t 7) (.t 23)),nP (.sto 7 (.t 8) (.t 24)),mV 9 25] (sR [lA 26 2 7,fD 27 1 2,nP (.sto 2 (.t 27) (.t 26))] (.seq (.drw [0,0,0,1,11,31] [(0,lA 28 4 2),(1,lA 29 7 8),(2,mV 30 9),(3,nP (.sto 4 (.t 4) (.t 28))),(4,nP (.sto 7 (.t 5) (.t 29))),(5,mV 6 30)]) .ret))) .skip)) (sR [lA 31 4 2,lA 32 7 3,oP 33 (.call 166 [.t 31,.t 32]),eX 34 33 0,eX 35 33 1,eX 36 33 2,nP (.sto 4 (.t 4) (.t 34)),nP (.sto 7 (.t 5) (.t 35)),mV 6 36] .ret))
theorem dg156:Dg Tryz.prog 156 Tryz.f156 ic156 [(.cell 4 4 true),(.cell 5 7 true),(.t 6)]:=⟨Tryz.func156,by kernel_rfl,by kernel_rfl⟩
theorem c156 (w:M.World) (p:Pk) (hw:WI w) (hp:PkP p):FnP Tryz.prog G 156 0 [.arr 107 10 (w.convs.map Conv.row),.arr 82 3 (w.door.map.map Pair.row),.arr 46 8 (w.door.flows.map Flw.row),.arr 30 7 (w.nets.map Pk.row)] [.agg [.own 0 w.convs.length,.own 1 w.door.map.length,.own 2 w.door.flows.length,.own 3 w.nets.length],.agg [.int .i64 p.kind,.int .i64 p.frm.a,.int .i64 p.frm.p,.int .i64 p.to.a,.int .i64 p.to.p,.int .i64 p.at_,.str p.text]] (passA (carry w p)):=by
  refine mP dg156 Tryz.ntmps156 ⟨_,_,rfl,rfl⟩ ?_
  have hdoor:(p.to.door=true∨p.frm.inside=true)→carry w p=({ w with door:=(dPass w.door p).1 },(dPass w.door p).2):=fun h=>carry_door (by simpa using h)
  have hhost:p.to.door=false→p.frm.inside=false→carry w p=hostR w p:=fun h1 h2=>carry_host (by simp [h1,h2])
  simp only [ic156,go_sem]
  with_reducible repeat' (first|refine br ?_ ?_<;>intro h e<;>(try simp only [e,go_sem])<;>clear e|rw [i64w (by omega)]|refine sd ?_<;>try simp only [go_sem]|(first|refine cr (c27 ..) ?_|refine cr (c50 ..) ?_)<;>try simp only [go_sem]|fail)
  · refine callU (c78 w.door p hw.door (by have:=hw.flows2;omega) hp) [1,2] [] 22 2 (by simp only [go_sem];first|done|simp) (by simp only [go_sem];first|done|simp) (by simp) (by simp) (by rintro _ _ ⟨rfl,rfl⟩;simp) (by intro i hi;rcases (show i=0∨i=1 by omega) with rfl|rfl<;>simp only [go_sem]) ?_
    rintro _ _ ⟨rfl,rfl⟩
    simp only [go_sem]
    with_reducible repeat' (first|refine br ?_ ?_<;>intro h e<;>(try simp only [e,go_sem])<;>clear e|rw [i64w (by omega)]|refine sd ?_<;>try simp only [go_sem]|fail)
    refine passRet (w:={ w with door:=(dPass w.door p).1 }) (q:=(dPass w.door p).2) 0 102200 102201 3 (hdoor (.inl (by assumption))) ?_ ?_ ?_ ?_ ?_ ?_ ?_ ?_ ?_ (by decide)<;>simp only [go_sem]
  · refine callU (c78 w.door p hw.door (by have:=hw.flows2;omega) hp) [1,2] [] 22 2 (by simp only [go_sem];first|done|simp) (by simp only [go_sem];first|done|simp) (by simp) (by simp) (by rintro _ _ ⟨rfl,rfl⟩;simp) (by intro i hi;rcases (show i=0∨i=1 by omega) with rfl|rfl<;>simp only [go_sem]) ?_
    rintro _ _ ⟨rfl,rfl⟩
    simp only [go_sem]
    with_reducible repeat' (first|refine br ?_ ?_<;>intro h e<;>(try simp only [e,go_sem])<;>clear e|rw [i64w (by omega)]|refine sd ?_<;>try simp only [go_sem]|fail)
    refine passRet (w:={ w with door:=(dPass w.door p).1 }) (q:=(dPass w.door p).2) 0 102200 102201 3 (hdoor (.inr (by assumption))) ?_ ?_ ?_ ?_ ?_ ?_ ?_ ?_ ?_ (by decide)<;>simp only [go_sem]
  · refine callU (c166 w p hw hp) [0,1,2,3] [] 33 4 (by simp only [go_sem];first|done|simp) (by simp only [go_sem];first|done|simp) (by simp) (by simp) (by rintro _ _ ⟨rfl,rfl⟩;simp) (by intro i hi;rcases (show i=0∨i=1∨i=2∨i=3 by omega) with rfl|rfl|rfl|rfl<;>simp only [go_sem]) ?_
    rintro _ _ ⟨rfl,rfl⟩
    simp only [go_sem]
    with_reducible repeat' (first|refine br ?_ ?_<;>intro h e<;>(try simp only [e,go_sem])<;>clear e|rw [i64w (by omega)]|refine sd ?_<;>try simp only [go_sem]|fail)
    refine passRet (w:=(hostR w p).1) (q:=(hostR w p).2) 103300 103301 103302 103303 (hhost (by assumption) (by assumption)) ?_ ?_ ?_ ?_ ?_ ?_ ?_ ?_ ?_ (by decide)<;>simp only [go_sem]
theorem PkP.ofNet {w:M.World} (h:WI w) {k:Nat} {p:Pk} (hp:w.nets[k]?=some p):PkP p:=(h.net p (List.mem_of_getElem? hp)).pk
def netR (w:M.World) (k a:Int):M.World :=
  if within a 0 ((w.nets.length:Int) - 1) then
    if k=5 then send w w.nets[a.toNat]?
    else if k=4 then { w with nets:=w.nets.eraseIdx a.toNat }
    else match w.nets[a.toNat]? with
      | some p=>send (carry { w with nets:=w.nets.eraseIdx a.toNat } p).1 (carry { w with nets:=w.nets.eraseIdx a.toNat } p).2
      | none=>w
  else w
theorem netR_is (w:M.World) (e:Ev) (h:e.kind=3∨e.kind=4∨e.kind=5):wDo w e=netR w e.kind e.a:=by
  unfold wDo netR
  rcases h with h|h|h<;>simp only [h]<;>simp<;>rfl
def rowV (sz c o n:Nat):Hs→Option (List (List V) × List Nat)
  | .arr _ s rows=>if s=sz then guardP (o+n≤rows.length) (some ((rows.drop o).take n,[c])) else none
  | _=>none
theorem rowO_view (h:Nat→Hs) (sz c o n):rowO h sz (.view c o n)=rowV sz c o n (h c):=by simp only [rowO,rowsF,rowV];cases h c<;>rfl
theorem rowV_a {sz c o n ty rows} (hl:o+n≤rows.length):rowV sz c o n (.arr ty sz rows)=some ((rows.drop o).take n,[c]):=by
  simp [rowV,guardP,hl]
def ic140:IC:=sR [oP 2 (.box 66 (.t 0)),oP 3 (.box 144 (.t 1)),oP 4 (.alloc 66 [.nils,.nils,.nils,.nils])] (.seq (sR [fD 9 1 3,lD 10 1 9,fD 11 3 2,lD 12 1 11,oP 13 (.len (.t 12)),oP 14 (.bin .sub (.t 13) (.c (.int .i64 1))),oP 15 (.call 68 [.t 10,.c i0,.t 14]),oP 16 (.un .not (.t 15))] (.cond (.t 16) (sR [lA 17 4 2,nP (.sto 4 (.t 4) (.t 17))] .ret) .skip)) (sR [fD 18 3 2,lD 19 1 18,fD 20 1 3,lD 21 1 20,oP 22 (.iad 7 (.t 19) (.t 21)),lA 23 7 22,oP 5 (.alloc 30 [i0,i0,i0,i0,i0,i0,s0]),nP (.sto 7 (.t 5) (.t 23))] (.seq (sR [fD 24 0 3,lD 25 1 24,oP 26 (.bin .eql (.t 25) (.c (.int .i64 5)))] (.cond (.t 26) (sR [lA 27 4 2,lA 28 7 5,oP 29 (.call 139 [.t 27,.t 28,.c (.bool true)]),nP (.sto 4 (.t 4) (.t 29))] .ret) .skip)) (.seq (.drw [0,0,2,0,8,30,63,0,128,0,512,1536,3968,8191,16383,32767] [(0,oP 30 (.bsl 30 7 [])),(1,fD 31 3 2),(2,lD 32 1 31),(3,fD 33 1 3),(4,lD 34 1 33),(5,oP 35 (.slv 7 (.t 32) none (some (.t 34)))),(6,oP 36 (.app 30 7 (.t 30) (.t 35))),(7,fD 37 3 2),(8,lD 38 1 37),(9,fD 39 1 3),(10,lD 40 1 39),(11,oP 41 (.bin .add (.t 40) (.c (.int .i64 1)))),(12,oP 42 (.slv 7 (.t 38) (some (.t 41)) none)),(13,oP 43 (.app 30 7 (.t 36) (.t 42))),(14,fD 44 3 2),(15,nP (.sto 1 (.t 44) (.t 43)))]) (.seq (sR [fD 45 0 3,lD 46 1 45,oP 47 (.bin .eql (.t 46) (.c (.int .i64 4)))] (.cond (.t 47) (sR [lA 48 4 2,nP (.sto 4 (.t 4) (.t 48))] .ret) .skip)) (sR [lA 50 4 2,lA 51 7 5,oP 52 (.call 156 [.t 50,.t 51]),mV 49 52,eX 53 49 0,eX 54 49 1,eX 55 49 2,oP 6 (.alloc 66 [.nils,.nils,.nils,.nils]),oP 7 (.alloc 30 [i0,i0,i0,i0,i0,i0,s0]),nP (.sto 4 (.t 6) (.t 53)),nP (.sto 7 (.t 7) (.t 54)),mV 8 55] (sR [lA 56 4 6,lA 57 7 7,mV 58 8,oP 59 (.call 139 [.t 56,.t 57,.t 58]),nP (.sto 4 (.t 4) (.t 59))] .ret)))))))
theorem dg140:Dg Tryz.prog 140 Tryz.f140 ic140 [(.cell 4 4 true)]:=⟨Tryz.func140,by kernel_rfl,by kernel_rfl⟩
theorem c140 (w:M.World) (e:Ev) (hw:WI w):FnP Tryz.prog G 140 0 [.arr 107 10 (w.convs.map Conv.row),.arr 82 3 (w.door.map.map Pair.row),.arr 46 8 (w.door.flows.map Flw.row),.arr 30 7 (w.nets.map Pk.row)] [.agg [.own 0 w.convs.length,.own 1 w.door.map.length,.own 2 w.door.flows.length,.own 3 w.nets.length],.agg [.int .i64 e.kind,.int .i64 e.a,.int .i64 e.b,.int .i64 e.c,.int .i64 e.pkt.kind,.int .i64 e.pkt.frm.a,.int .i64 e.pkt.frm.p,.int .i64 e.pkt.to.a,.int .i64 e.pkt.to.p,.int .i64 e.pkt.at_,.str e.pkt.text]] (worldA (netR w e.kind e.a)):=by
  refine mP dg140 Tryz.ntmps140 ⟨_,_,rfl,rfl⟩ ?_
  have hnl:=hw.nl
  simp only [ic140,go_sem]
  rw [i64w (by omega)]
  generalize hwi:within e.a 0 ((w.nets.length:Int) - 1)=b
  have hw2:b=true→0≤e.a∧e.a≤(w.nets.length:Int) - 1:=fun h=>M.within_iff.1 (hwi.trans h)
  refine callR (c68 e.a 0 ((w.nets.length:Int) - 1)) rfl rfl ?_
  rw [hwi]
  cases b<;>simp only [go_sem]
  · have hx:netR w e.kind e.a=w:=by simp [netR,hwi]
    rw [hx]
    exact worldRet (c:=1004) 0 1 2 3 (by simp only [go_sem]) (by simp only [go_sem]) (by simp only [go_sem]) (by simp only [go_sem]) (by simp only [go_sem]) (by simp only [go_sem]) (by decide)
  have hw2:=hw2 rfl
  have hil:e.a.toNat<w.nets.length:=by omega
  have hg:w.nets.getD e.a.toNat default=w.nets[e.a.toNat]:=by simp [List.getD,hil]
  have hg2:w.nets[e.a.toNat]?=some w.nets[e.a.toNat]:=List.getElem?_eq_getElem hil
  have hx5:e.kind=5→netR w e.kind e.a=send w (some w.nets[e.a.toNat]):=fun h=>by simp only [netR,hwi,if_true];rw [if_pos h,hg2]
  have hx4:e.kind=4→netR w e.kind e.a={ w with nets:=w.nets.eraseIdx e.a.toNat }:=fun h=>by simp only [netR,hwi,if_true];rw [if_neg (by omega),if_pos h]
  have hx3:e.kind≠5→e.kind≠4→netR w e.kind e.a=send (carry { w with nets:=w.nets.eraseIdx e.a.toNat } w.nets[e.a.toNat]).1 (carry { w with nets:=w.nets.eraseIdx e.a.toNat } w.nets[e.a.toNat]).2:=fun h h'=>by simp only [netR,hwi,if_true];rw [if_neg h,if_neg h',hg2]
  have hpk:=PkP.ofNet hw hg2
  have hwe:=hw.erase e.a.toNat
  have herase:w.nets.eraseIdx e.a.toNat=w.nets.take e.a.toNat++w.nets.drop (e.a.toNat+1):=List.eraseIdx_eq_take_drop_succ _ _
  generalize hp:w.nets[e.a.toNat]=p at *
  have rv1:rowV 7 3 0 (e.a.toNat - 0) (.arr 30 7 (w.nets.map Pk.row))=some ((w.nets.take e.a.toNat).map Pk.row,[3]):=by
    rw [rowV_a (by simp;omega)];simp [List.map_take]
  have rv2:rowV 7 3 (e.a+1).toNat (w.nets.length - (e.a+1).toNat) (.arr 30 7 (w.nets.map Pk.row))=some ((w.nets.drop (e.a.toNat+1)).map Pk.row,[3]):=by
    rw [rowV_a (by simp;omega)]
    have:(e.a+1).toNat=e.a.toNat+1:=by omega
    rw [this,← List.map_drop,← List.map_take,List.take_of_length_le (by simp)]
  with_reducible repeat' (first|refine br ?_ ?_<;>intro h e<;>(try simp only [e,go_sem,getD_mp hil,hg,hp,rowO_view,rv1,rv2,List.length_take,List.length_drop])<;>clear e|rw [i64w (by omega)]|refine sd ?_<;>try simp only [go_sem,getD_mp hil,hg,hp,rowO_view,rv1,rv2,List.length_take,List.length_drop]|fail)
  · have c5:=c139 w p true (by omega)
    simp only [cond_true] at c5
    rw [hx5 h]
    refine callU c5 [0,1,2,3] [] 29 4 (by simp only [go_sem];first|done|simp) (by simp only [go_sem];first|done|simp) (by simp) (by simp) (by rintro _ _ ⟨rfl,rfl⟩;simp) (by intro i hi;rcases (show i=0∨i=1∨i=2∨i=3 by omega) with rfl|rfl|rfl|rfl<;>simp only [go_sem]) ?_
    rintro _ _ ⟨rfl,rfl⟩
    simp only [go_sem]
    with_reducible repeat' (first|refine br ?_ ?_<;>intro h e<;>(try simp only [e,go_sem])<;>clear e|rw [i64w (by omega)]|refine sd ?_<;>try simp only [go_sem]|fail)
    exact worldRet (c:=1004) 102900 102901 102902 102903 (by simp only [go_sem]) (by simp only [go_sem]) (by simp only [go_sem]) (by simp only [go_sem]) (by simp only [go_sem]) (by simp only [go_sem]) (by decide)
  · have hlen:min e.a.toNat w.nets.length+(w.nets.length - (e.a.toNat+1))=(w.nets.eraseIdx e.a.toNat).length:=by rw [herase];simp
    have hrows:(w.nets.take e.a.toNat).map Pk.row++(w.nets.drop (e.a.toNat+1)).map Pk.row=(w.nets.eraseIdx e.a.toNat).map Pk.row:=by rw [herase,List.map_append]
    simp only [hlen,hrows]
    rw [hx4 h]
    exact worldRet (c:=1004) 0 1 2 1043 (by simp only [go_sem]) (by simp only [go_sem]) (by simp only [go_sem]) (by simp only [go_sem]) (by simp only [go_sem]) (by simp only [go_sem]) (by decide)
  · have hlen:min e.a.toNat w.nets.length+(w.nets.length - (e.a.toNat+1))=(w.nets.eraseIdx e.a.toNat).length:=by rw [herase];simp
    have hrows:(w.nets.take e.a.toNat).map Pk.row++(w.nets.drop (e.a.toNat+1)).map Pk.row=(w.nets.eraseIdx e.a.toNat).map Pk.row:=by rw [herase,List.map_append]
    simp only [hlen,hrows]
    rw [hx3 (by assumption) (by assumption)]
    have hk:=(carry_ok hwe ⟨hpk,fun hin=>(hw.net p (List.mem_of_getElem? hg2)).c hin⟩).1
    refine callU (c156 { w with nets:=w.nets.eraseIdx e.a.toNat } p hwe hpk) [0,1,2,1043] [] 52 4 (by simp only [go_sem];first|done|simp) (by simp only [go_sem];first|done|simp) (by simp) (by simp) (by rintro _ _ ⟨rfl,rfl⟩;simp) (by intro i hi;rcases (show i=0∨i=1∨i=2∨i=3 by omega) with rfl|rfl|rfl|rfl<;>simp only [go_sem]) ?_
    rintro _ _ ⟨rfl,rfl⟩
    simp only [go_sem]
    with_reducible repeat' (first|refine br ?_ ?_<;>intro h e<;>(try simp only [e,go_sem])<;>clear e|rw [i64w (by omega)]|refine sd ?_<;>try simp only [go_sem]|fail)
    generalize carry { w with nets:=w.nets.eraseIdx e.a.toNat } p=r at *
    obtain ⟨v,o⟩:=r
    simp only at hk
    have hvn:=hk.nl
    simp only [go_sem]
    with_reducible repeat' (first|refine br ?_ ?_<;>intro h e<;>(try simp only [e,go_sem])<;>clear e|rw [i64w (by omega)]|refine sd ?_<;>try simp only [go_sem]|fail)
    refine callU (c139 v (o.getD .zero) o.isSome (by omega)) [105200,105201,105202,105203] [] 59 4 (by simp only [go_sem];first|done|simp) (by simp only [go_sem];first|done|simp) (by simp) (by simp) (by rintro _ _ ⟨rfl,rfl⟩;simp) (by intro i hi;rcases (show i=0∨i=1∨i=2∨i=3 by omega) with rfl|rfl|rfl|rfl<;>simp only [go_sem]) ?_
    rw [opt_b]
    rintro _ _ ⟨rfl,rfl⟩
    simp only [go_sem]
    with_reducible repeat' (first|refine br ?_ ?_<;>intro h e<;>(try simp only [e,go_sem])<;>clear e|rw [i64w (by omega)]|refine sd ?_<;>try simp only [go_sem]|fail)
    exact worldRet (c:=1004) 105900 105901 105902 105903 (by simp only [go_sem]) (by simp only [go_sem]) (by simp only [go_sem]) (by simp only [go_sem]) (by simp only [go_sem]) (by simp only [go_sem]) (by decide)
def ic122:IC:=sR [oP 2 (.box 66 (.t 0)),oP 3 (.box 144 (.t 1)),oP 4 (.alloc 66 [.nils,.nils,.nils,.nils])] (.seq (sR [fD 7 0 3,lD 8 1 7] (.block 0 (.seq (sR [oP 10 (.bin .eql (.t 8) (.c (.int .i64 1))),mV 9 10] (.cond (.t 9) .skip (.reg [oP 11 (.bin .eql (.t 8) (.c (.int .i64 2))),mV 9 11]))) (.cond (.t 9) (sR [lA 13 4 2,lA 14 11 3,oP 15 (.call 138 [.t 13,.t 14]),mV 12 15,eX 16 12 0,eX 17 12 1,oP 5 (.alloc 30 [i0,i0,i0,i0,i0,i0,s0]),nP (.sto 7 (.t 5) (.t 16)),mV 6 17] (sR [lA 18 4 2,lA 19 7 5,mV 20 6,oP 21 (.call 139 [.t 18,.t 19,.t 20]),nP (.sto 4 (.t 4) (.t 21))] .ret)) (.seq (sR [oP 23 (.bin .eql (.t 8) (.c (.int .i64 3))),mV 22 23] (.cond (.t 22) .skip (sR [oP 24 (.bin .eql (.t 8) (.c (.int .i64 4))),mV 22 24] (.cond (.t 22) .skip (.reg [oP 25 (.bin .eql (.t 8) (.c (.int .i64 5))),mV 22 25]))))) (.cond (.t 22) (sR [lA 26 4 2,lA 27 11 3,oP 28 (.call 140 [.t 26,.t 27]),nP (.sto 4 (.t 4) (.t 28))] .ret) (sR [oP 30 (.bin .eql (.t 8) (.c (.int .i64 6))),mV 29 30] (.cond (.t 29) (.seq (.drw [0,0,2,0,0,16,56,127,255] [(0,lA 31 4 2),(1,fD 32 4 3),(2,lA 33 7 32),(3,lA 34 4 2),(4,fD 35 4 3),(5,lA 36 7 35),(6,oP 37 (.call 141 [.t 34,.t 36])),(7,oP 38 (.call 139 [.t 31,.t 33,.t 37])),(8,nP (.sto 4 (.t 4) (.t 38)))]) .ret) .skip)))))))) (sR [lA 39 4 2,nP (.sto 4 (.t 4) (.t 39))] .ret))
theorem dg122:Dg Tryz.prog 122 Tryz.f122 ic122 [(.cell 4 4 true)]:=⟨Tryz.func122,by kernel_rfl,by kernel_rfl⟩
theorem c122 (w:M.World) (e:Ev) (hw:WI w) (ht:e.pkt.text.length≤2000000):FnP Tryz.prog G 122 0 [.arr 107 10 (w.convs.map Conv.row),.arr 82 3 (w.door.map.map Pair.row),.arr 46 8 (w.door.flows.map Flw.row),.arr 30 7 (w.nets.map Pk.row)] [.agg [.own 0 w.convs.length,.own 1 w.door.map.length,.own 2 w.door.flows.length,.own 3 w.nets.length],.agg [.int .i64 e.kind,.int .i64 e.a,.int .i64 e.b,.int .i64 e.c,.int .i64 e.pkt.kind,.int .i64 e.pkt.frm.a,.int .i64 e.pkt.frm.p,.int .i64 e.pkt.to.a,.int .i64 e.pkt.to.p,.int .i64 e.pkt.at_,.str e.pkt.text]] (worldA (wDo w e)):=by
  refine mP dg122 Tryz.ntmps122 ⟨_,_,rfl,rfl⟩ ?_
  have hnl:=hw.nl
  have hcl:=hw.cl
  have hml:=(mapOk_ports (doorOk_iff.1 hw.door).1).2
  have hB:∀ c∈w.convs,c.up.length≤2000000∧c.down.length≤2000000:=fun c hc=>by
    have hb:=convOk_B (hw.cv c hc)
    have h1:=hb.up
    have h2:=hb.down
    omega
  simp only [ic122,go_sem]
  with_reducible repeat' (first|refine br ?_ ?_<;>intro h e<;>(try simp only [e,go_sem])<;>clear e|rw [i64w (by omega)]|refine sd ?_<;>try simp only [go_sem]|fail)
  · refine callF (c138 w e (by omega) (by omega) hB) [0,1,2,3] false (by simp only [go_sem];first|done|simp [E.row,Pc.row,Pair.row,Part.row,Flw.row,Pk.row,Conv.row]) (by simp only [List.mem_cons,List.not_mem_nil,or_false];rintro c (rfl|rfl|rfl|rfl)<;>simp only [go_sem]) rfl (.inr rfl) ?_
    have hx:wDo w e=send w (sayW w (decide (e.kind=1)) e.a e.b e.c):=by simp [wDo,h]
    rw [hx]
    generalize sayW w (decide (e.kind=1)) e.a e.b e.c=o
    simp only [go_sem]
    with_reducible repeat' (first|refine br ?_ ?_<;>intro h e<;>(try simp only [e,go_sem])<;>clear e|rw [i64w (by omega)]|refine sd ?_<;>try simp only [go_sem]|fail)
    refine callU (c139 w (o.getD .zero) o.isSome (by omega)) [0,1,2,3] [] 21 4 (by simp only [go_sem];first|done|simp) (by simp only [go_sem];first|done|simp) (by simp) (by simp) (by rintro _ _ ⟨rfl,rfl⟩;simp) (by intro i hi;rcases (show i=0∨i=1∨i=2∨i=3 by omega) with rfl|rfl|rfl|rfl<;>simp only [go_sem]) ?_
    rw [opt_b]
    rintro _ _ ⟨rfl,rfl⟩
    simp only [go_sem]
    with_reducible repeat' (first|refine br ?_ ?_<;>intro h e<;>(try simp only [e,go_sem])<;>clear e|rw [i64w (by omega)]|refine sd ?_<;>try simp only [go_sem]|fail)
    exact worldRet (c:=1004) 102100 102101 102102 102103 (by simp only [go_sem]) (by simp only [go_sem]) (by simp only [go_sem]) (by simp only [go_sem]) (by simp only [go_sem]) (by simp only [go_sem]) (by decide)
  · refine callF (c138 w e (by omega) (by omega) hB) [0,1,2,3] false (by simp only [go_sem];first|done|simp [E.row,Pc.row,Pair.row,Part.row,Flw.row,Pk.row,Conv.row]) (by simp only [List.mem_cons,List.not_mem_nil,or_false];rintro c (rfl|rfl|rfl|rfl)<;>simp only [go_sem]) rfl (.inr rfl) ?_
    have hx:wDo w e=send w (sayW w (decide (e.kind=1)) e.a e.b e.c):=by simp [wDo,h]
    rw [hx]
    generalize sayW w (decide (e.kind=1)) e.a e.b e.c=o
    simp only [go_sem]
    with_reducible repeat' (first|refine br ?_ ?_<;>intro h e<;>(try simp only [e,go_sem])<;>clear e|rw [i64w (by omega)]|refine sd ?_<;>try simp only [go_sem]|fail)
    refine callU (c139 w (o.getD .zero) o.isSome (by omega)) [0,1,2,3] [] 21 4 (by simp only [go_sem];first|done|simp) (by simp only [go_sem];first|done|simp) (by simp) (by simp) (by rintro _ _ ⟨rfl,rfl⟩;simp) (by intro i hi;rcases (show i=0∨i=1∨i=2∨i=3 by omega) with rfl|rfl|rfl|rfl<;>simp only [go_sem]) ?_
    rw [opt_b]
    rintro _ _ ⟨rfl,rfl⟩
    simp only [go_sem]
    with_reducible repeat' (first|refine br ?_ ?_<;>intro h e<;>(try simp only [e,go_sem])<;>clear e|rw [i64w (by omega)]|refine sd ?_<;>try simp only [go_sem]|fail)
    exact worldRet (c:=1004) 102100 102101 102102 102103 (by simp only [go_sem]) (by simp only [go_sem]) (by simp only [go_sem]) (by simp only [go_sem]) (by simp only [go_sem]) (by simp only [go_sem]) (by decide)
  · rw [netR_is w e (.inl h)]
    refine callU (c140 w e hw) [0,1,2,3] [] 28 4 (by simp only [go_sem];first|done|simp) (by simp only [go_sem];first|done|simp) (by simp) (by simp) (by rintro _ _ ⟨rfl,rfl⟩;simp) (by intro i hi;rcases (show i=0∨i=1∨i=2∨i=3 by omega) with rfl|rfl|rfl|rfl<;>simp only [go_sem]) ?_
    rintro _ _ ⟨rfl,rfl⟩
    simp only [go_sem]
    with_reducible repeat' (first|refine br ?_ ?_<;>intro h e<;>(try simp only [e,go_sem])<;>clear e|rw [i64w (by omega)]|refine sd ?_<;>try simp only [go_sem]|fail)
    exact worldRet (c:=1004) 102800 102801 102802 102803 (by simp only [go_sem]) (by simp only [go_sem]) (by simp only [go_sem]) (by simp only [go_sem]) (by simp only [go_sem]) (by simp only [go_sem]) (by decide)
  · rw [netR_is w e (.inr (.inl h))]
    refine callU (c140 w e hw) [0,1,2,3] [] 28 4 (by simp only [go_sem];first|done|simp) (by simp only [go_sem];first|done|simp) (by simp) (by simp) (by rintro _ _ ⟨rfl,rfl⟩;simp) (by intro i hi;rcases (show i=0∨i=1∨i=2∨i=3 by omega) with rfl|rfl|rfl|rfl<;>simp only [go_sem]) ?_
    rintro _ _ ⟨rfl,rfl⟩
    simp only [go_sem]
    with_reducible repeat' (first|refine br ?_ ?_<;>intro h e<;>(try simp only [e,go_sem])<;>clear e|rw [i64w (by omega)]|refine sd ?_<;>try simp only [go_sem]|fail)
    exact worldRet (c:=1004) 102800 102801 102802 102803 (by simp only [go_sem]) (by simp only [go_sem]) (by simp only [go_sem]) (by simp only [go_sem]) (by simp only [go_sem]) (by simp only [go_sem]) (by decide)
  · rw [netR_is w e (.inr (.inr h))]
    refine callU (c140 w e hw) [0,1,2,3] [] 28 4 (by simp only [go_sem];first|done|simp) (by simp only [go_sem];first|done|simp) (by simp) (by simp) (by rintro _ _ ⟨rfl,rfl⟩;simp) (by intro i hi;rcases (show i=0∨i=1∨i=2∨i=3 by omega) with rfl|rfl|rfl|rfl<;>simp only [go_sem]) ?_
    rintro _ _ ⟨rfl,rfl⟩
    simp only [go_sem]
    with_reducible repeat' (first|refine br ?_ ?_<;>intro h e<;>(try simp only [e,go_sem])<;>clear e|rw [i64w (by omega)]|refine sd ?_<;>try simp only [go_sem]|fail)
    exact worldRet (c:=1004) 102800 102801 102802 102803 (by simp only [go_sem]) (by simp only [go_sem]) (by simp only [go_sem]) (by simp only [go_sem]) (by simp only [go_sem]) (by simp only [go_sem]) (by decide)
  · have hx:wDo w e=send w (bif stranger w e.pkt then some e.pkt else none):=by
      simp only [wDo,h]
      cases stranger w e.pkt<;>simp [send]
    rw [hx]
    refine callF (c141 w e.pkt (by omega) ht) [0,1,2,3] false (by simp only [go_sem];first|done|simp [E.row,Pc.row,Pair.row,Part.row,Flw.row,Pk.row,Conv.row]) (by simp only [List.mem_cons,List.not_mem_nil,or_false];rintro c (rfl|rfl|rfl|rfl)<;>simp only [go_sem]) rfl (.inr rfl) ?_
    generalize stranger w e.pkt=o
    simp only [go_sem]
    with_reducible repeat' (first|refine br ?_ ?_<;>intro h e<;>(try simp only [e,go_sem])<;>clear e|rw [i64w (by omega)]|refine sd ?_<;>try simp only [go_sem]|fail)
    refine callU (c139 w e.pkt o (by omega)) [0,1,2,3] [] 38 4 (by simp only [go_sem];first|done|simp) (by simp only [go_sem];first|done|simp) (by simp) (by simp) (by rintro _ _ ⟨rfl,rfl⟩;simp) (by intro i hi;rcases (show i=0∨i=1∨i=2∨i=3 by omega) with rfl|rfl|rfl|rfl<;>simp only [go_sem]) ?_
    rintro _ _ ⟨rfl,rfl⟩
    simp only [go_sem]
    with_reducible repeat' (first|refine br ?_ ?_<;>intro h e<;>(try simp only [e,go_sem])<;>clear e|rw [i64w (by omega)]|refine sd ?_<;>try simp only [go_sem]|fail)
    exact worldRet (c:=1004) 103800 103801 103802 103803 (by simp only [go_sem]) (by simp only [go_sem]) (by simp only [go_sem]) (by simp only [go_sem]) (by simp only [go_sem]) (by simp only [go_sem]) (by decide)
  · have hx:wDo w e=w:=by simp only [wDo];simp [*]
    rw [hx]
    exact worldRet (c:=1004) 0 1 2 3 (by simp only [go_sem]) (by simp only [go_sem]) (by simp only [go_sem]) (by simp only [go_sem]) (by simp only [go_sem]) (by simp only [go_sem]) (by decide)
theorem okConv_b {cs:List Conv} {k:Nat} (h:k<cs.length) (hb:okConv cs k=false):together cs=false:=by
  cases ht:together cs with
  | false=>rfl
  | true=>rw [(together_iff.1 ht).2 k h] at hb;cases hb
def ic137:IC:=sR [oP 2 (.mv (.c (.bool false)))] (.seq (sR [oP 3 (.mv (.c i0))] (.block 0 (.loop (.seq (sR [mV 5 3,mV 6 0,oP 7 (.len (.t 6)),bN 8 .lss 5 7] (.cond (.t 8) .skip (.exit 0))) (.seq (.block 1 (.seq (sR [oP 4 (.mv (.c i0))] (.block 2 (.loop (.seq (sR [mV 11 4,mV 12 3,bN 13 .lss 11 12] (.cond (.t 13) .skip (.exit 2))) (.seq (.block 3 (.seq (.drw [0,0,3,7,15,0,0,96,224,480,1023,2047,4095,4095,16383,32767,65535,4095,4095,397311,921599,1970175,4194303,8388607] [(0,mV 16 0),(1,mV 17 4),(2,oP 18 (.iad 10 (.t 16) (.t 17))),(3,fD 19 0 18),(4,lA 20 2 19),(5,mV 21 0),(6,mV 22 3),(7,oP 23 (.iad 10 (.t 21) (.t 22))),(8,fD 24 0 23),(9,lA 25 2 24),(10,oP 26 (.eqs false [.i,.i] (.t 20) (.t 25))),(11,mV 27 26),(12,⟨some 28,some (27,false),.mv (.t 0)⟩),(13,⟨some 29,some (27,false),.mv (.t 4)⟩),(14,⟨some 30,some (27,false),.iad 10 (.t 28) (.t 29)⟩),(15,⟨some 31,some (27,false),.fad 2 (.t 30)⟩),(16,⟨some 32,some (27,false),.ld 2 true (.t 31)⟩),(17,⟨some 33,some (27,false),.mv (.t 0)⟩),(18,⟨some 34,some (27,false),.mv (.t 3)⟩),(19,⟨some 35,some (27,false),.iad 10 (.t 33) (.t 34)⟩),(20,⟨some 36,some (27,false),.fad 2 (.t 35)⟩),(21,⟨some 37,some (27,false),.ld 2 true (.t 36)⟩),(22,⟨some 38,some (27,false),.eqs false [.i,.i] (.t 32) (.t 37)⟩),(23,oP 39 (.pick (.t 27) (.c (.bool true)) (.t 38)))]) (.cond (.t 39) (sR [oP 2 (.mv (.c (.bool false)))] .ret) .skip))) (.reg [mV 14 4,oP 15 (.bin .add (.t 14) (.c (.int .i64 1))),mV 4 15])))))) (sR [mV 40 0,mV 41 3,oP 42 (.iad 10 (.t 40) (.t 41)),lA 43 10 42,oP 44 (.call 155 [.t 43]),oP 45 (.un .not (.t 44))] (.cond (.t 45) (sR [oP 2 (.mv (.c (.bool false)))] .ret) .skip)))) (.reg [mV 9 3,oP 10 (.bin .add (.t 9) (.c (.int .i64 1))),mV 3 10])))))) (sR [mV 46 0,oP 47 (.len (.t 46)),oP 48 (.bin .leq (.t 47) (.c (.int .i64 2))),mV 2 48] .ret))
theorem dg137:Dg Tryz.prog 137 Tryz.f137 ic137 [(.t 2)]:=⟨Tryz.func137,by kernel_rfl,by kernel_rfl⟩
theorem c137 (cs:List Conv) (hl:cs.length≤2000000) (hB:∀ c∈cs,(c.up.length≤2000000∧c.down.length≤2000000)∧c.upGot.length≤2000000∧c.downGot.length≤2000000):FnR Tryz.prog G 137 [.sl 10 (cs.map Conv.row)] (.bool (together cs)):=by
  refine mF dg137 Tryz.ntmps137 ?_
  simp only [ic137,go_sem]
  refine loopN (fun i:Nat=>⟨getL [(0,.sl 10 (cs.map Conv.row)),(3,.int .i64 (i:Int))],getH []⟩) (fun i=>cs.length - i) (fun i=>i≤cs.length∧∀ j,j<i→okConv cs j=true) 0 (leQ []) ⟨Nat.zero_le _,by omega⟩ ?_
  intro i ⟨hi,ha⟩
  simp only [go_sem]
  by_cases h:(i:Int)<cs.length
  · have hil:i<cs.length:=by omega
    have hg:cs.getD i default=cs[i]:=by simp [List.getD,hil]
    have hok:=okConv_i hil
    obtain ⟨⟨b1,b2⟩,b3,b4⟩:=hB _ (List.getElem_mem hil)
    simp only [eq_true h,go_sem]
    refine loopN (fun k:Nat=>⟨getL [(0,.sl 10 (cs.map Conv.row)),(3,.int .i64 (i:Int)),(4,.int .i64 (k:Int))],getH []⟩) (fun k=>i - k) (fun k=>k≤i∧(cs.take k).any (fun o=>decide (o.ins=cs[i].ins) || decide (o.out=cs[i].out))=false) 0 (leQ []) ⟨Nat.zero_le _,by simp⟩ ?_
    intro k ⟨hk,hka⟩
    simp only [go_sem]
    by_cases h2:(k:Int)<i
    · have hkl:k<cs.length:=by omega
      have hgk:cs.getD k default=cs[k]:=by simp [List.getD,hkl]
      simp only [eq_true h2,go_sem]
      have bad:(cs[k].ins=cs[i].ins∨cs[k].out=cs[i].out)→together cs=false:=fun hb=>okConv_b hil (by
        have:(cs.take i).any (fun o=>decide (o.ins=cs[i].ins) || decide (o.out=cs[i].out))=true:=List.any_eq_true.2 ⟨cs[k],List.mem_iff_getElem?.2 ⟨k,by rw [List.getElem?_take,if_pos (by omega)];exact List.getElem?_eq_getElem hkl⟩,by simpa using hb⟩
        rw [hok,this];simp)
      with_reducible repeat' (first|refine br ?_ ?_<;>intro h e<;>(try simp only [e,go_sem,hg,hgk,E.ext_iff'])<;>clear e|rw [i64w (by omega)]|refine sd ?_<;>try simp only [go_sem,hg,hgk,E.ext_iff']|fail)
      · exact bad (.inl (by assumption))
      · exact bad (.inr (by assumption))
      · refine ⟨k+1,by omega,⟨by omega, ?_⟩,(leQ [])⟩
        rw [List.take_add_one,List.getElem?_eq_getElem hkl]
        simp only [Option.toList_some,List.any_append,hka,List.any_cons,List.any_nil,Bool.or_false,Bool.false_or,Bool.or_eq_false_iff,decide_eq_false_iff_not]
        exact ⟨by assumption,by assumption⟩
    · simp only [eq_false h2,go_sem]
      obtain rfl:k=i:=by omega
      have c1:=c155 cs[k] b1 b2 b3 b4
      with_reducible repeat' (first|refine br ?_ ?_<;>intro h e<;>(try simp only [e,go_sem,hg])<;>clear e|rw [i64w (by omega)]|refine sd ?_<;>try simp only [go_sem,hg]|(first|refine cr (c1 ..) ?_)<;>try simp only [go_sem,hg]|fail)
      · refine ⟨k+1,by omega,⟨by omega,fun j hj=>?_⟩,(leQ [])⟩
        rcases Nat.lt_or_ge j k with hjk|hjk
        · exact ha j hjk
        · obtain rfl:j=k:=by omega
          rw [hok,hka];simp [*]
      · exact okConv_b hil (by rw [hok];simp [*])
  · simp only [eq_false h,go_sem]
    have:i=cs.length:=by omega
    subst this
    with_reducible repeat' (first|refine br ?_ ?_<;>intro h e<;>(try simp only [e,go_sem])<;>clear e|rw [i64w (by omega)]|refine sd ?_<;>try simp only [go_sem]|fail)
    have h1:=together_iff (cs:=cs)
    by_cases h2:cs.length≤2
    · rw [h1.2 ⟨h2,ha⟩];exact (decide_eq_true (by omega)).symm
    · have:together cs=false:=by
        cases ht:together cs with
        | false=>rfl
        | true=>exact absurd (h1.1 ht).1 h2
      rw [this];exact (decide_eq_false (by omega)).symm
def newA (o:Option M.World) (r:V) (out:List Hs):Prop:=(∃ w,o=some w∧r=.tup [.agg [.own 0 w.convs.length,.own 1 w.door.map.length,.own 2 w.door.flows.length,.own 3 w.nets.length],.bool true]∧out=[.arr 107 10 (w.convs.map Conv.row),.arr 82 3 (w.door.map.map Pair.row),.arr 46 8 (w.door.flows.map Flw.row),.arr 30 7 (w.nets.map Pk.row)])∨(o=none∧r=.tup [.agg [.nils,.nils,.nils,.nils],.bool false]∧out=[])
theorem newA_ex (o:Option M.World):∃ r out,newA o r out:=by
  cases o with
  | none=>exact ⟨_,_,.inr ⟨rfl,rfl,rfl⟩⟩
  | some w=>exact ⟨_,_,.inl ⟨w,rfl,rfl,rfl⟩⟩
theorem newConvs_cons (c:Conv) (cs:List Conv):newConvs (c :: cs)=match convNew c.ins c.out c.up c.down with
    | some n=>(newConvs cs).map (n :: ·)
    | none=>none:=by
  simp only [newConvs]
  cases convNew c.ins c.out c.up c.down<;>cases newConvs cs<;>rfl
theorem convNew_is {i o:E} {up down:B} {n:Conv} (h:convNew i o up down=some n):n=⟨i,o,up,down,0,0,[],[]⟩:=by
  unfold convNew at h
  split at h<;>cases h
  rfl
theorem newRet {pin:Nat} {o:Option M.World} {l:List (Nat × V)} {mm:List (Nat × Hs)} {d c e:Nat} (ho:o=none) (h2:getL l d=.pv c 0) (h3:getL l e=.bool false) (m2:getH mm c=.var 66 [.nils,.nils,.nils,.nils]) :
    retQ [.cell d 4 true,.t e] 0 (newA o) .ret ⟨getL l,getH mm⟩:=by
  refine retN (.tup [.agg [.nils,.nils,.nils,.nils],.bool false]) [] [] ?_ (.inr ⟨ho,rfl,rfl⟩) (by simp only [go_sem]) (by simp [argH]) (by simp only [go_sem])
  simp only [go_sem,h2,h3,m2]
theorem newRet1 {o:Option M.World} {w:M.World} {l:List (Nat × V)} {mm:List (Nat × Hs)} {d c e:Nat} (n0 n1 n2 n3:Nat) (ho:o=some w) (h4:getL l d=.pv c 0) (h5:getL l e=.bool true)
    (m4:getH mm c=.var 66 [.own n0 w.convs.length,.own n1 w.door.map.length,.own n2 w.door.flows.length,.own n3 w.nets.length])
    (m0:getH mm n0=.arr 107 10 (w.convs.map Conv.row)) (m1:getH mm n1=.arr 82 3 (w.door.map.map Pair.row)) (m2:getH mm n2=.arr 46 8 (w.door.flows.map Flw.row)) (m3:getH mm n3=.arr 30 7 (w.nets.map Pk.row))
    (hne:[n0,n1,n2,n3].Nodup):retQ [.cell d 4 true,.t e] 0 (newA o) .ret ⟨getL l,getH mm⟩:=by
  refine retN (.tup [.agg [.own 0 w.convs.length,.own 1 w.door.map.length,.own 2 w.door.flows.length,.own 3 w.nets.length],.bool true]) [.arr 107 10 (w.convs.map Conv.row),.arr 82 3 (w.door.map.map Pair.row),.arr 46 8 (w.door.flows.map Flw.row),.arr 30 7 (w.nets.map Pk.row)] [(0,n0),(1,n1),(2,n2),(3,n3)] ?_ (.inl ⟨w,ho,rfl,rfl⟩) ?_ (by simpa [argH,getN] using hne) (by simp only [go_sem])
  · simp only [go_sem,h4,h5,m4]
  · simp only [go_sem,m0,m1,m2,m3]
def ic120:IC:=sR [oP 2 (.alloc 66 [.nils,.nils,.nils,.nils]),oP 3 (.mv (.c (.bool false)))] (sR [oP 8 (.bsl 107 10 []),oP 9 (.bsl 82 3 []),oP 10 (.bsl 46 8 []),oP 11 (.build [.nils,.nils] [(0,(1,.t 9)),(1,(1,.t 10))]),oP 12 (.bsl 30 7 []),oP 13 (.build [.nils,.nils,.nils,.nils] [(0,(1,.t 8)),(1,(2,.t 11)),(3,(1,.t 12))]),oP 4 (.alloc 66 [.nils,.nils,.nils,.nils]),nP (.sto 4 (.t 4) (.t 13))] (.seq (sR [oP 5 (.mv (.c i0))] (.block 0 (.loop (.seq (sR [mV 14 5,mV 15 0,oP 16 (.len (.t 15)),bN 17 .lss 14 16] (.cond (.t 17) .skip (.exit 0))) (.seq (.block 1 (.seq (.drw [0,0,3,7,15,0,0,96,224,480,0,0,3072,7168,15360,0,0,98304,229376,491520,1048575,2097151,4194303,4194303,0,25165823,67108863] [(0,mV 21 0),(1,mV 22 5),(2,oP 23 (.iad 10 (.t 21) (.t 22))),(3,fD 24 0 23),(4,lA 25 2 24),(5,mV 26 0),(6,mV 27 5),(7,oP 28 (.iad 10 (.t 26) (.t 27))),(8,fD 29 2 28),(9,lA 30 2 29),(10,mV 31 0),(11,mV 32 5),(12,oP 33 (.iad 10 (.t 31) (.t 32))),(13,fD 34 4 33),(14,lD 35 1 34),(15,mV 36 0),(16,mV 37 5),(17,oP 38 (.iad 10 (.t 36) (.t 37))),(18,fD 39 5 38),(19,lD 40 1 39),(20,oP 41 (.call 136 [.t 25,.t 30,.t 35,.t 40])),(21,mV 20 41),(22,eX 42 20 0),(23,eX 43 20 1),(24,oP 6 (.alloc 107 [i0,i0,i0,i0,s0,s0,i0,i0,s0,s0])),(25,nP (.sto 10 (.t 6) (.t 42))),(26,mV 7 43)]) (.seq (sR [mV 44 7,oP 45 (.un .not (.t 44))] (.cond (.t 45) (sR [oP 46 (.build [.nils,.nils,.nils,.nils] []),nP (.sto 4 (.t 2) (.t 46)),oP 3 (.mv (.c (.bool false)))] .ret) .skip)) (.reg [fD 47 0 4,lD 48 1 47,lA 49 10 6,oP 50 (.bsl 107 10 [.t 49]),oP 51 (.app 107 10 (.t 48) (.t 50)),fD 52 0 4,nP (.sto 1 (.t 52) (.t 51))])))) (.reg [mV 18 5,oP 19 (.bin .add (.t 18) (.c (.int .i64 1))),mV 5 19])))))) (.seq (sR [fD 53 0 4,lD 54 1 53,oP 55 (.call 137 [.t 54]),oP 56 (.un .not (.t 55))] (.cond (.t 56) (sR [oP 57 (.build [.nils,.nils,.nils,.nils] []),nP (.sto 4 (.t 2) (.t 57)),oP 3 (.mv (.c (.bool false)))] .ret) .skip)) (sR [lA 58 4 4,nP (.sto 4 (.t 2) (.t 58)),oP 3 (.mv (.c (.bool true)))] .ret))))
theorem dg120:Dg Tryz.prog 120 Tryz.f120 ic120 [(.cell 2 4 true),(.t 3)]:=⟨Tryz.func120,by kernel_rfl,by kernel_rfl⟩
theorem c120 (cs:List Conv) (hl:cs.length≤1000000) (hB:∀ c∈cs,c.up.length≤2000000∧c.down.length≤2000000):FnP Tryz.prog G 120 0 [] [.sl 10 (cs.map Conv.row)] (newA (worldNew cs)):=by
  refine mP dg120 Tryz.ntmps120 (newA_ex _) ?_
  simp only [ic120,go_sem]
  refine loopN (fun a:Nat × List Conv=>⟨getL [(0,.sl 10 (cs.map Conv.row)),(2,.pv 1002 0),(4,.pv 1004 0),(5,.int .i64 (a.1:Int))],getH [(1002,.var 66 [.nils,.nils,.nils,.nils]),(1004,.var 66 [.own 1008 a.2.length,.own 1009 0,.own 1010 0,.own 1012 0]),(1008,.arr 107 10 (a.2.map Conv.row)),(1009,.arr 82 3 []),(1010,.arr 46 8 []),(1012,.arr 30 7 [])]⟩)
    (fun a=>cs.length - a.1) (fun a=>a.1≤cs.length∧a.2.length=a.1∧newConvs cs=(newConvs (cs.drop a.1)).map (a.2++·)∧∀ c∈a.2,(c.up.length≤2000000∧c.down.length≤2000000)∧c.upGot.length≤2000000∧c.downGot.length≤2000000) (0,[]) (leQ []) ⟨Nat.zero_le _,rfl,by simp,by simp⟩ ?_
  intro ⟨i,ns⟩ ⟨hi,hnl,hnc,hnB⟩
  simp only at hi hnl hnc hnB
  simp only [go_sem]
  by_cases h:(i:Int)<cs.length
  · have hil:i<cs.length:=by omega
    have hg:cs.getD i default=cs[i]:=by simp [List.getD,hil]
    obtain ⟨b1,b2⟩:=hB _ (List.getElem_mem hil)
    rw [List.drop_eq_getElem_cons hil,newConvs_cons] at hnc
    have c1:=c136 cs[i].ins cs[i].out cs[i].up cs[i].down b1 b2
    simp only [eq_true h,go_sem]
    with_reducible repeat' (first|refine br ?_ ?_<;>intro h e<;>(try simp only [e,go_sem,hg])<;>clear e|rw [i64w (by omega)]|refine sd ?_<;>try simp only [go_sem,hg]|(first|refine cr (c1 ..) ?_)<;>try simp only [go_sem,hg]|fail)
    · obtain ⟨n,hn⟩:=Option.isSome_iff_exists.1 (by assumption)
      have hni:=convNew_is hn
      simp only [hn,Option.getD_some] at hnc ⊢
      refine ⟨(i+1,ns++[n]),by simp only;omega,⟨by simp only;omega,by simp only [List.length_append,List.length_cons,List.length_nil];omega, ?_, ?_⟩,leN [(1008,1051)] ?_ ?_ (by simp [getN]) (by simp only [go_sem])⟩
      · simp only
        rw [hnc]
        cases newConvs (cs.drop (i+1))<;>simp
      · intro c hc
        rcases List.mem_append.1 hc with hc|hc
        · exact hnB c hc
        · simp only [List.mem_singleton] at hc
          subst hc
          rw [hni]
          exact ⟨⟨b1,b2⟩,by simp,by simp⟩
      · simp only [go_sem];simp
      · simp only [go_sem];simp [Conv.row]
    · refine newRet (pin:=0) (c:=1002) ?_ (by simp only [go_sem]) (by simp only [go_sem]) (by simp only [go_sem])
      have hn:convNew cs[i].ins cs[i].out cs[i].up cs[i].down=none:=by simpa using h
      rw [hn] at hnc
      simp only [Option.map_none] at hnc
      simp [worldNew,hnc]
  · simp only [eq_false h,go_sem]
    have:i=cs.length:=by omega
    subst this
    rw [List.drop_length] at hnc
    simp only [newConvs,Option.map_some,List.append_nil] at hnc
    refine callF (c137 ns (by omega) hnB) [1008] false (by simp only [go_sem];first|done|simp [E.row,Pc.row,Pair.row,Part.row,Flw.row,Pk.row,Conv.row]) (by simp only [List.mem_singleton];rintro c rfl;rfl) rfl (.inr rfl) ?_
    simp only [go_sem]
    cases ht:together ns<;>simp only [go_sem]
    · refine newRet (pin:=0) (c:=1002) ?_ (by simp only [go_sem]) (by simp only [go_sem]) (by simp only [go_sem])
      simp [worldNew,hnc,ht]
    · refine newRet1 (c:=1002) (w:=⟨ns,.zero,[]⟩) 1008 1009 1010 1012 ?_ ?_ ?_ ?_ ?_ ?_ ?_ ?_ (by decide)
      · simp [worldNew,hnc,ht]
      all_goals simp only [go_sem,Door.zero]
def playA (code:B) (p:Int) (r:V) (o:List Hs):Prop:=∃ (p':Int) (cs:List Conv) (es:List Ev) (w:M.World),(p≤p'∧p'≤p+4000)∧CvD cs∧(es.length≤58∧∀ e∈es,e.pkt.text.length≤50)∧(PW w∧1≤w.convs.length) ∧
  r=.tup [.own 1 cs.length,.own 2 es.length,.agg [.own 3 w.convs.length,.own 4 w.door.map.length,.own 5 w.door.flows.length,.own 6 w.nets.length]]∧o=[rdH code p',.arr 107 10 (cs.map Conv.row),.arr 144 11 (es.map Ev.row),.arr 107 10 (w.convs.map Conv.row),.arr 82 3 (w.door.map.map Pair.row),.arr 46 8 (w.door.flows.map Flw.row),.arr 30 7 (w.nets.map Pk.row)]
theorem newConvs_len:∀ {cs ns:List Conv},newConvs cs=some ns→ns.length=cs.length
  | [],ns,h=>by cases h;rfl
  | c :: cs,ns,h=>by
    rw [newConvs_cons] at h
    split at h
    · cases hn:newConvs cs with
      | none=>rw [hn] at h;cases h
      | some m =>
        rw [hn] at h
        simp only [Option.map_some,Option.some.injEq] at h
        subst h
        simp [newConvs_len hn]
    · cases h
theorem cvP (cs:List Conv):((cs.map Conv.row).all fun r=>r.all V.plain0)=true:=by simp [Conv.row,V.plain0]
def conv1:Conv:=⟨⟨1,1⟩,⟨4,4⟩,[64,49,58,49,59,97],[98,64,57,58,49,48,59],0,0,[],[]⟩
theorem world1:∃ w,worldNew [conv1]=some w:=⟨⟨[conv1],.zero,[]⟩,by decide +kernel⟩
theorem wi_acks {w:M.World} (h:WI w):∀ c∈w.convs,(0≤c.upAck∧c.upAck≤1000)∧0≤c.downAck∧c.downAck≤1000:=fun c hc=>by
  have hb:=convOk_B (h.cv c hc)
  have:=hb.upAck
  have:=hb.downAck
  omega
def ic86:IC:=sR [oP 2 (.mv (.c .nils)),oP 3 (.mv (.c .nils)),oP 4 (.alloc 66 [.nils,.nils,.nils,.nils])] (sR [mV 11 0,oP 12 (.call 119 [.t 11]),mV 5 12] (sR [mV 14 5,oP 15 (.call 120 [.t 14]),mV 13 15,eX 16 13 0,eX 17 13 1,oP 6 (.alloc 66 [.nils,.nils,.nils,.nils]),nP (.sto 4 (.t 6) (.t 16)),mV 7 17] (.seq (sR [mV 18 7,oP 19 (.un .not (.t 18))] (.cond (.t 19) (sR [oP 20 (.build [i0,i0] [(0,(1,.c (.int .i64 1))),(1,(1,.c (.int .i64 1)))]),oP 21 (.build [i0,i0] [(0,(1,.c (.int .i64 4))),(1,(1,.c (.int .i64 4)))]),oP 22 (.build [i0,i0,i0,i0,s0,s0,i0,i0,s0,s0] [(0,(2,.t 20)),(2,(2,.t 21)),(4,(1,.c (.str [64,49,58,49,59,97]))),(5,(1,.c (.str [98,64,57,58,49,48,59])))]),oP 23 (.bsl 107 10 [.t 22]),mV 5 23] (.reg [mV 25 5,oP 26 (.call 120 [.t 25]),mV 24 26,eX 27 24 0,eX 28 24 1,nP (.sto 4 (.t 6) (.t 27))])) .skip)) (sR [oP 29 (.bsl 144 11 []),mV 8 29] (.seq (sR [mV 30 0,oP 31 (.call 77 [.t 30,.c (.int .i64 58)]),mV 9 31] (.block 0 (.loop (.seq (sR [mV 32 9,oP 33 (.bin .gtr (.t 32) (.c i0))] (.cond (.t 33) .skip (.exit 0))) (.seq (.block 1 (sR [mV 36 0,lA 37 4 6,oP 38 (.call 121 [.t 36,.t 37]),oP 10 (.alloc 144 [i0,i0,i0,i0,i0,i0,i0,i0,i0,i0,s0]),nP (.sto 11 (.t 10) (.t 38))] (sR [mV 39 8,lA 40 11 10,oP 41 (.bsl 144 11 [.t 40]),oP 42 (.app 144 11 (.t 39) (.t 41)),mV 8 42] (.reg [lA 43 4 6,lA 44 11 10,oP 45 (.call 122 [.t 43,.t 44]),nP (.sto 4 (.t 6) (.t 45))])))) (.reg [mV 34 9,oP 35 (.bin .sub (.t 34) (.c (.int .i64 1))),mV 9 35])))))) (.seq (.drw [0,0,0,1,11,31] [(0,mV 46 5),(1,mV 47 8),(2,lA 48 4 6),(3,mV 2 46),(4,mV 3 47),(5,nP (.sto 4 (.t 4) (.t 48)))]) .ret))))))
theorem dg86:Dg Tryz.prog 86 Tryz.f86 ic86 [(.t 2),(.t 3),(.cell 4 4 true)]:=⟨Tryz.func86,by kernel_rfl,by kernel_rfl⟩
set_option maxHeartbeats 1000000 in
theorem c86 (code:B) (p:Int) (hc:code.length≤2000) (hp:0≤p∧p≤200000000):FnP Tryz.prog G 86 1 [rdH code p] [.pv 0 0] (playA code p):=by
  obtain ⟨w1,hw1⟩:=world1
  have hwl:∀ {cs w},1≤cs.length→worldNew cs=some w→1≤w.convs.length:=fun {cs w} h1 h=>by
    have:=newConvs_len (worldNew_is h).2.1
    omega
  refine mP dg86 Tryz.ntmps86 ⟨_,_,p,[conv1],[],w1,by omega,⟨by simp,by simp [conv1]⟩,by simp,⟨PW.new hw1,hwl (by simp) hw1⟩,rfl,rfl⟩ ?_
  simp only [ic86,go_sem,rdH]
  refine callN (c119 code p hc (by omega)) [0] [] true 12 2 (by simp only [go_sem,rdH];first|done|simp) (by simp only [go_sem,rdH];first|done|simp) (by simp) (by simp) (by simp) ?_ ?_ ?_
  · rintro _ _ ⟨q',_,_,_,_,rfl⟩
    exact ⟨by simp,by simp,.inl rfl,fun i hi=>by obtain rfl:i=0:=(by omega);simp [chH,stepOk,rdH]⟩
  · intro i hi;rcases (show i=0∨i=1 by omega) with rfl|rfl<;>simp only [go_sem]
  rintro _ _ ⟨q,cs,hq,hcs,rfl,rfl⟩
  simp only [go_sem,rdH]
  obtain ⟨⟨hcs1,hcs2⟩,hcsB⟩:=id hcs
  refine callN (c120 cs (by omega) (fun c h=>by have:=hcsB c h;omega)) [] [101201] false 15 4 (by simp only [go_sem,rdH];first|done|simp) trivial (by simp) (by simp) (by simp only [List.mem_singleton];rintro c rfl;exact ⟨rfl,by simp⟩) ?_ ?_ ?_
  · rintro _ _ (⟨w,h,rfl,rfl⟩|⟨h,rfl,rfl⟩)
    · refine ⟨by simp,by simp,.inr ⟨by simp [V.plain,V.plain2,V.plain1,V.plain0], ?_⟩,fun i hi=>by omega⟩
      obtain ⟨_,_,hz,hn⟩:=worldNew_is h
      intro s hs
      simp only [List.mem_cons,List.not_mem_nil,or_false] at hs
      rcases hs with rfl|rfl|rfl|rfl
      · exact cvP _
      · rw [hz];rfl
      · rw [hz];rfl
      · rw [hn];rfl
    · exact ⟨by simp,by simp,.inr ⟨by simp [V.plain,V.plain2,V.plain1,V.plain0],by simp⟩,fun i hi=>by omega⟩
  · intro i hi;rcases (show i=0∨i=1∨i=2∨i=3 by omega) with rfl|rfl|rfl|rfl<;>simp only [go_sem]
  rintro _ _ (⟨w,hw,rfl,rfl⟩|⟨hw,rfl,rfl⟩)
  · simp only [go_sem]
    with_reducible repeat' (first|rw [i64w (by omega)];try simp only [go_sem]|refine br ?_ ?_<;>intro h e<;>(try simp only [e,go_sem])<;>clear e|refine sd ?_<;>try simp only [go_sem]|fail)
    have hwi:=worldNew_ok hw
    have hw1l:=hwl hcs1 hw
    refine pkN code q 58 31 hc fun k k1 k2=>?_
    simp only [go_sem,rdH]
    have k2:=k2 (by omega)
    with_reducible repeat' (first|rw [i64w (by omega)];try simp only [go_sem]|refine br ?_ ?_<;>intro h e<;>(try simp only [e,go_sem])<;>clear e|refine sd ?_<;>try simp only [go_sem]|fail)
    refine loopN (fun a:Int × List Ev × M.World × Int=>⟨getL [(0,.pv 0 0),(4,.pv 1004 0),(5,.own 101201 cs.length),(6,.pv 1006 0),(8,.own 1029 a.2.1.length),(9,.int .i64 a.2.2.2)],getH [(0,.var 99 [.sl 1 (code.map byR),.int .i64 a.1]),(1004,.var 66 [.nils,.nils,.nils,.nils]),(1006,.var 66 [.own 101500 a.2.2.1.convs.length,.own 101501 a.2.2.1.door.map.length,.own 101502 a.2.2.1.door.flows.length,.own 101503 a.2.2.1.nets.length]),(101201,.arr 107 10 (cs.map Conv.row)),(1029,.arr 144 11 (a.2.1.map Ev.row)),(101500,.arr 107 10 (a.2.2.1.convs.map Conv.row)),(101501,.arr 82 3 (a.2.2.1.door.map.map Pair.row)),(101502,.arr 46 8 (a.2.2.1.door.flows.map Flw.row)),(101503,.arr 30 7 (a.2.2.1.nets.map Pk.row))]⟩)
      (fun a=>a.2.2.2.toNat) (fun a=>(0≤a.2.2.2∧a.2.2.2+a.2.1.length≤57)∧(p≤a.1∧a.1≤p+151+60 * a.2.1.length)∧(PW a.2.2.1∧1≤a.2.2.1.convs.length)∧∀ e∈a.2.1,e.pkt.text.length≤50) (q+1,[],w,k) (leQ []) ⟨by simp;omega,by simp;omega,⟨PW.new hw,hw1l⟩,by simp⟩ ?_
    intro ⟨q2,es,v,n⟩ ⟨h1,h2,⟨h3,h4⟩,h5⟩
    simp only at h1 h2 h3 h4 h5
    have hp3:=h3
    have h3:=h3.1
    simp only [go_sem]
    with_reducible repeat' (first|rw [i64w (by omega)];try simp only [go_sem]|refine br ?_ ?_<;>intro h e<;>(try simp only [e,go_sem])<;>clear e|refine sd ?_<;>try simp only [go_sem]|fail)
    · have hvc:=h3.cl
      have hvn:=h3.nl
      refine callN (c121 code q2 v hc (by omega) (by omega) (by omega) (wi_acks h3)) [0,101500,101501,101502,101503] [] true 38 5 (by simp only [go_sem,rdH];first|done|simp) (by simp only [go_sem,rdH];first|done|simp) (by simp) (by simp) (by simp) ?_ ?_ ?_
      · rintro _ _ ⟨q',_,rfl,_⟩
        exact ⟨by simp,by simp,.inl rfl,fun i hi=>by rcases (show i=0∨i=1∨i=2∨i=3∨i=4 by omega) with rfl|rfl|rfl|rfl|rfl<;>simp [chH,stepOk,rdH]⟩
      · intro i hi;rcases (show i=0∨i=1∨i=2∨i=3∨i=4 by omega) with rfl|rfl|rfl|rfl|rfl<;>simp only [go_sem]
      rintro _ _ ⟨q3,hq3,rfl,e,he,rfl⟩
      simp only [go_sem,rdH]
      with_reducible repeat' (first|rw [i64w (by omega)];try simp only [go_sem]|refine br ?_ ?_<;>intro h e<;>(try simp only [e,go_sem])<;>clear e|refine sd ?_<;>try simp only [go_sem]|fail)
      refine callU (c122 v e h3 (by omega)) [101500,101501,101502,101503] [] 45 4 (by simp only [go_sem];first|done|simp) (by simp only [go_sem];first|done|simp) (by simp) (by simp) (by rintro _ _ ⟨rfl,rfl⟩;simp) (by intro i hi;rcases (show i=0∨i=1∨i=2∨i=3 by omega) with rfl|rfl|rfl|rfl<;>simp only [go_sem]) ?_
      rintro _ _ ⟨rfl,rfl⟩
      simp only [go_sem]
      with_reducible repeat' (first|rw [i64w (by omega)];try simp only [go_sem]|refine br ?_ ?_<;>intro h e<;>(try simp only [e,go_sem])<;>clear e|refine sd ?_<;>try simp only [go_sem]|fail)
      have hx:=wDo_ext v e
      refine ⟨(q3,es++[e],wDo v e,n - 1),by simp only;omega,⟨by simp only [List.length_append,List.length_cons,List.length_nil];omega,by simp only [List.length_append,List.length_cons,List.length_nil];omega,⟨hp3.step e,by simp only;have:=hx.len;omega⟩, ?_⟩,leN [(1029,1042),(101500,104500),(101501,104501),(101502,104502),(101503,104503)] ?_ ?_ (by simp [getN]) (by simp only [go_sem])⟩
      · intro x hx
        rcases List.mem_append.1 hx with hx|hx
        · exact h5 x hx
        · simp only [List.mem_singleton] at hx;subst hx;exact he
      · simp only [go_sem];simp
      · simp only [go_sem];simp [Ev.row,Pk.row]
    · refine retN (.tup [.own 1 cs.length,.own 2 es.length,.agg [.own 3 v.convs.length,.own 4 v.door.map.length,.own 5 v.door.flows.length,.own 6 v.nets.length]]) [rdH code q2,.arr 107 10 (cs.map Conv.row),.arr 144 11 (es.map Ev.row),.arr 107 10 (v.convs.map Conv.row),.arr 82 3 (v.door.map.map Pair.row),.arr 46 8 (v.door.flows.map Flw.row),.arr 30 7 (v.nets.map Pk.row)] [(1,101201),(2,1029),(3,101500),(4,101501),(5,101502),(6,101503)] (by simp only [go_sem,rdH]) ⟨q2,cs,es,v,by omega,hcs,⟨by omega,h5⟩,⟨hp3,h4⟩,rfl,rfl⟩ ?_ (by simp [argH,getN,rdH]) (by simp only [go_sem,rdH])
      simp only [go_sem,rdH]
  · simp only [go_sem]
    with_reducible repeat' (first|rw [i64w (by omega)];try simp only [go_sem]|refine br ?_ ?_<;>intro h e<;>(try simp only [e,go_sem])<;>clear e|refine sd ?_<;>try simp only [go_sem]|fail)
    have hlit:[[V.int .i64 1,V.int .i64 1,V.int .i64 4,V.int .i64 4,V.str [64,49,58,49,59,97],V.str [98,64,57,58,49,48,59],V.int .i64 0,V.int .i64 0,V.str [],V.str []]]=[conv1].map Conv.row:=rfl
    simp only [hlit]
    have hone:([conv1]:List Conv).length=1:=rfl
    refine callN (c120 [conv1] (by simp) (by simp [conv1])) [] [1023] false 26 4 (by simp only [go_sem,rdH];first|done|simp) trivial (by simp) (by simp) (by simp only [List.mem_singleton];rintro c rfl;exact ⟨rfl,by simp⟩) ?_ ?_ ?_
    · rintro _ _ (⟨w,h,rfl,rfl⟩|⟨h,rfl,rfl⟩)
      · refine ⟨by simp,by simp,.inr ⟨by simp [V.plain,V.plain2,V.plain1,V.plain0], ?_⟩,fun i hi=>by omega⟩
        obtain ⟨_,_,hz,hn⟩:=worldNew_is h
        intro s hs
        simp only [List.mem_cons,List.not_mem_nil,or_false] at hs
        rcases hs with rfl|rfl|rfl|rfl
        · exact cvP _
        · rw [hz];rfl
        · rw [hz];rfl
        · rw [hn];rfl
      · exact ⟨by simp,by simp,.inr ⟨by simp [V.plain,V.plain2,V.plain1,V.plain0],by simp⟩,fun i hi=>by omega⟩
    · intro i hi;rcases (show i=0∨i=1∨i=2∨i=3 by omega) with rfl|rfl|rfl|rfl<;>simp only [go_sem]
    rintro _ _ (⟨w,hw2,rfl,rfl⟩|⟨hw2,_,_⟩)
    rotate_left
    · rw [hw1] at hw2;cases hw2
    simp only [go_sem]
    with_reducible repeat' (first|rw [i64w (by omega)];try simp only [go_sem]|refine br ?_ ?_<;>intro h e<;>(try simp only [e,go_sem])<;>clear e|refine sd ?_<;>try simp only [go_sem]|fail)
    have hwi:=worldNew_ok hw2
    have hw1l:=hwl (cs:=[conv1]) (by simp) hw2
    refine pkN code q 58 31 hc fun k k1 k2=>?_
    simp only [go_sem,rdH]
    have k2:=k2 (by omega)
    with_reducible repeat' (first|rw [i64w (by omega)];try simp only [go_sem]|refine br ?_ ?_<;>intro h e<;>(try simp only [e,go_sem])<;>clear e|refine sd ?_<;>try simp only [go_sem]|fail)
    refine loopN (fun a:Int × List Ev × M.World × Int=>⟨getL [(0,.pv 0 0),(4,.pv 1004 0),(5,.own 1023 [conv1].length),(6,.pv 1006 0),(8,.own 1029 a.2.1.length),(9,.int .i64 a.2.2.2)],getH [(0,.var 99 [.sl 1 (code.map byR),.int .i64 a.1]),(1004,.var 66 [.nils,.nils,.nils,.nils]),(1006,.var 66 [.own 102600 a.2.2.1.convs.length,.own 102601 a.2.2.1.door.map.length,.own 102602 a.2.2.1.door.flows.length,.own 102603 a.2.2.1.nets.length]),(1023,.arr 107 10 ([conv1].map Conv.row)),(1029,.arr 144 11 (a.2.1.map Ev.row)),(102600,.arr 107 10 (a.2.2.1.convs.map Conv.row)),(102601,.arr 82 3 (a.2.2.1.door.map.map Pair.row)),(102602,.arr 46 8 (a.2.2.1.door.flows.map Flw.row)),(102603,.arr 30 7 (a.2.2.1.nets.map Pk.row))]⟩)
      (fun a=>a.2.2.2.toNat) (fun a=>(0≤a.2.2.2∧a.2.2.2+a.2.1.length≤57)∧(p≤a.1∧a.1≤p+151+60 * a.2.1.length)∧(PW a.2.2.1∧1≤a.2.2.1.convs.length)∧∀ e∈a.2.1,e.pkt.text.length≤50) (q+1,[],w,k) (leQ []) ⟨by simp;omega,by simp;omega,⟨PW.new hw2,hw1l⟩,by simp⟩ ?_
    intro ⟨q2,es,v,n⟩ ⟨h1,h2,⟨h3,h4⟩,h5⟩
    simp only at h1 h2 h3 h4 h5
    have hp3:=h3
    have h3:=h3.1
    simp only [go_sem]
    with_reducible repeat' (first|rw [i64w (by omega)];try simp only [go_sem]|refine br ?_ ?_<;>intro h e<;>(try simp only [e,go_sem])<;>clear e|refine sd ?_<;>try simp only [go_sem]|fail)
    · have hvc:=h3.cl
      have hvn:=h3.nl
      refine callN (c121 code q2 v hc (by omega) (by omega) (by omega) (wi_acks h3)) [0,102600,102601,102602,102603] [] true 38 5 (by simp only [go_sem,rdH];first|done|simp) (by simp only [go_sem,rdH];first|done|simp) (by simp) (by simp) (by simp) ?_ ?_ ?_
      · rintro _ _ ⟨q',_,rfl,_⟩
        exact ⟨by simp,by simp,.inl rfl,fun i hi=>by rcases (show i=0∨i=1∨i=2∨i=3∨i=4 by omega) with rfl|rfl|rfl|rfl|rfl<;>simp [chH,stepOk,rdH]⟩
      · intro i hi;rcases (show i=0∨i=1∨i=2∨i=3∨i=4 by omega) with rfl|rfl|rfl|rfl|rfl<;>simp only [go_sem]
      rintro _ _ ⟨q3,hq3,rfl,e,he,rfl⟩
      simp only [go_sem,rdH]
      with_reducible repeat' (first|rw [i64w (by omega)];try simp only [go_sem]|refine br ?_ ?_<;>intro h e<;>(try simp only [e,go_sem])<;>clear e|refine sd ?_<;>try simp only [go_sem]|fail)
      refine callU (c122 v e h3 (by omega)) [102600,102601,102602,102603] [] 45 4 (by simp only [go_sem];first|done|simp) (by simp only [go_sem];first|done|simp) (by simp) (by simp) (by rintro _ _ ⟨rfl,rfl⟩;simp) (by intro i hi;rcases (show i=0∨i=1∨i=2∨i=3 by omega) with rfl|rfl|rfl|rfl<;>simp only [go_sem]) ?_
      rintro _ _ ⟨rfl,rfl⟩
      simp only [go_sem]
      with_reducible repeat' (first|rw [i64w (by omega)];try simp only [go_sem]|refine br ?_ ?_<;>intro h e<;>(try simp only [e,go_sem])<;>clear e|refine sd ?_<;>try simp only [go_sem]|fail)
      have hx:=wDo_ext v e
      refine ⟨(q3,es++[e],wDo v e,n - 1),by simp only;omega,⟨by simp only [List.length_append,List.length_cons,List.length_nil];omega,by simp only [List.length_append,List.length_cons,List.length_nil];omega,⟨hp3.step e,by simp only;have:=hx.len;omega⟩, ?_⟩,leN [(1029,1042),(102600,104500),(102601,104501),(102602,104502),(102603,104503)] ?_ ?_ (by simp [getN]) (by simp only [go_sem])⟩
      · intro x hx
        rcases List.mem_append.1 hx with hx|hx
        · exact h5 x hx
        · simp only [List.mem_singleton] at hx;subst hx;exact he
      · simp only [go_sem];simp
      · simp only [go_sem];simp [Ev.row,Pk.row]
    · refine retN (.tup [.own 1 [conv1].length,.own 2 es.length,.agg [.own 3 v.convs.length,.own 4 v.door.map.length,.own 5 v.door.flows.length,.own 6 v.nets.length]]) [rdH code q2,.arr 107 10 ([conv1].map Conv.row),.arr 144 11 (es.map Ev.row),.arr 107 10 (v.convs.map Conv.row),.arr 82 3 (v.door.map.map Pair.row),.arr 46 8 (v.door.flows.map Flw.row),.arr 30 7 (v.nets.map Pk.row)] [(1,1023),(2,1029),(3,102600),(4,102601),(5,102602),(6,102603)] (by simp only [go_sem,rdH]) ⟨q2,[conv1],es,v,by omega,⟨by simp,by simp [conv1]⟩,⟨by omega,h5⟩,⟨hp3,h4⟩,rfl,rfl⟩ ?_ (by simp [argH,getN,rdH]) (by simp only [go_sem,rdH])
      simp only [go_sem,rdH]
def pkQ (r:V):Prop:=∃ k:Pk,k.text.length≤50∧r=.agg (Pk.row k)
def words3:List B:=[[],[97,32,98],[120]]
theorem words3_le:∀ x∈words3,x.length≤3:=by decide
def ic82:IC:=sR [oP 2 (.alloc 30 [i0,i0,i0,i0,i0,i0,s0])] (sR [mV 4 0,oP 5 (.call 77 [.t 4,.c (.int .i64 2)]),oP 6 (.bin .add (.c (.int .i64 1)) (.t 5)),mV 7 0,oP 8 (.call 115 [.t 7]),mV 9 0,oP 10 (.call 115 [.t 9]),mV 11 0,oP 12 (.call 77 [.t 11,.c (.int .i64 20)]),oP 13 (.build [i0,i0,i0,i0,i0,i0,s0] [(0,(1,.t 6)),(1,(2,.t 8)),(3,(2,.t 10)),(5,(1,.t 12))]),oP 3 (.alloc 30 [i0,i0,i0,i0,i0,i0,s0]),nP (.sto 7 (.t 3) (.t 13))] (.seq (sR [fD 14 0 3,lD 15 1 14,oP 16 (.bin .eql (.t 15) (.c (.int .i64 1)))] (.cond (.t 16) (.reg [mV 17 0,oP 18 (.call 116 [.t 17,.c (.int .i64 16)]),oP 19 (.bin .add (.t 18) (.c (.str [97]))),fD 20 6 3,nP (.sto 1 (.t 20) (.t 19))]) .skip)) (.seq (sR [mV 21 0,oP 22 (.call 77 [.t 21,.c (.int .i64 20)])] (.block 0 (sR [oP 24 (.bin .eql (.t 22) (.c i0)),mV 23 24] (.cond (.t 23) (.reg [mV 25 0,oP 26 (.call 77 [.t 25,.c (.int .i64 4)]),fD 27 0 3,nP (.sto 1 (.t 27) (.t 26))]) (sR [oP 29 (.bin .eql (.t 22) (.c (.int .i64 1))),mV 28 29] (.cond (.t 28) (.reg [oP 30 (.bsl 3 1 [.c (.int .i64 (-1)),.c (.int .i64 99),.c (.int .i64 100)]),mV 31 0,oP 32 (.call 77 [.t 31,.c (.int .i64 3)]),oP 33 (.iad 1 (.t 30) (.t 32)),lD 34 1 33,fD 35 5 3,nP (.sto 1 (.t 35) (.t 34))]) (sR [oP 37 (.bin .eql (.t 22) (.c (.int .i64 2))),mV 36 37] (.cond (.t 36) (.reg [mV 38 0,oP 39 (.bsl 9 1 [.c s0,.c (.str [97,32,98]),.c (.str [120])]),oP 40 (.call 117 [.t 38,.t 39]),fD 41 6 3,nP (.sto 1 (.t 41) (.t 40))]) .skip)))))))) (sR [lA 42 7 3,nP (.sto 7 (.t 2) (.t 42))] .ret))))
theorem dg82:Dg Tryz.prog 82 Tryz.f82 ic82 [(.cell 2 7 true)]:=⟨Tryz.func82,by kernel_rfl,by kernel_rfl⟩
theorem c82 (code:B) (p:Int) (hc:code.length≤2000) (hp:0≤p∧p≤600000000):FnP Tryz.prog G 82 1 [rdH code p] [.pv 0 0] (rdQ code p 60 pkQ):=by
  refine mP dg82 Tryz.ntmps82 ⟨_,_,p,by omega,by omega,rfl,.zero,by simp [Pk.zero],rfl⟩ ?_
  have fin:∀ l mm (p':Int) (k:Pk),(p≤p'∧p'≤p+60)→k.text.length≤50→getL l 2=.pv 1002 0→getH mm 1002=.var 30 (Pk.row k)→getH mm 0=.var 99 [.sl 1 (code.map byR),.int .i64 p']→retQ [.cell 2 7 true] 1 (rdQ code p 60 pkQ) .ret ⟨getL l,getH mm⟩:=fun l mm p' k h1 h2 h3 h4 h5=>by
    refine retN (.agg (Pk.row k)) [rdH code p'] [] ?_ ⟨p',h1.1,h1.2,rfl,k,h2,rfl⟩ ?_ (by simp [argH,getN,rdH]) (by simp only [go_sem,rdH])
    · simp only [go_sem,h3,h4]
    · simp only [go_sem,rdH,h5]
  simp only [ic82,go_sem,rdH]
  with_reducible repeat' (first|rw [i64w (by omega)];try simp only [go_sem]|refine br ?_ ?_<;>intro h e<;>(try simp only [e,go_sem])<;>clear e|refine sd ?_<;>try simp only [go_sem]|fail)
  refine pkN code p 2 5 hc fun a a1 a2=>?_
  simp only [go_sem,rdH]
  with_reducible repeat' (first|rw [i64w (by omega)];try simp only [go_sem]|refine br ?_ ?_<;>intro h e<;>(try simp only [e,go_sem])<;>clear e|refine sd ?_<;>try simp only [go_sem]|fail)
  refine callN (c115 code (p+1) hc (by omega)) [0] [] true 8 1 (by simp only [go_sem,rdH];first|done|simp) (by simp only [go_sem,rdH];first|done|simp) (by simp) (by simp) (by simp) ?_ ?_ ?_
  · rintro _ _ ⟨q',_,_,rfl,_⟩
    exact ⟨by simp,by simp,.inl rfl,fun i hi=>by obtain rfl:i=0:=(by omega);simp [chH,stepOk,rdH]⟩
  · intro i hi;obtain rfl:i=0:=(by omega);simp only [go_sem]
  rintro _ _ ⟨q1,q11,q12,rfl,e,_,_,rfl⟩
  simp only [go_sem,rdH]
  with_reducible repeat' (first|rw [i64w (by omega)];try simp only [go_sem]|refine br ?_ ?_<;>intro h e<;>(try simp only [e,go_sem])<;>clear e|refine sd ?_<;>try simp only [go_sem]|fail)
  refine callN (c115 code q1 hc (by omega)) [0] [] true 10 1 (by simp only [go_sem,rdH];first|done|simp) (by simp only [go_sem,rdH];first|done|simp) (by simp) (by simp) (by simp) ?_ ?_ ?_
  · rintro _ _ ⟨q',_,_,rfl,_⟩
    exact ⟨by simp,by simp,.inl rfl,fun i hi=>by obtain rfl:i=0:=(by omega);simp [chH,stepOk,rdH]⟩
  · intro i hi;obtain rfl:i=0:=(by omega);simp only [go_sem]
  rintro _ _ ⟨q2,q21,q22,rfl,f,_,_,rfl⟩
  simp only [go_sem,rdH]
  with_reducible repeat' (first|rw [i64w (by omega)];try simp only [go_sem]|refine br ?_ ?_<;>intro h e<;>(try simp only [e,go_sem])<;>clear e|refine sd ?_<;>try simp only [go_sem]|fail)
  refine pkN code q2 20 12 hc fun b b1 b2=>?_
  simp only [go_sem,rdH]
  with_reducible repeat' (first|rw [i64w (by omega)];try simp only [go_sem]|refine br ?_ ?_<;>intro h e<;>(try simp only [e,go_sem])<;>clear e|refine sd ?_<;>try simp only [go_sem]|fail)
  · have:=0
    refine callN (x116 code (q2+1) 16 hc (by omega) (by omega)) [0] [] true 18 1 (by simp only [go_sem,rdH];first|done|simp) (by simp only [go_sem,rdH];first|done|simp) (by simp) (by simp) (by simp) ?_ ?_ ?_
    · rintro _ _ ⟨q',_,_,rfl,_⟩
      exact ⟨by simp,by simp,.inl rfl,fun i hi=>by obtain rfl:i=0:=(by omega);simp [chH,stepOk,rdH]⟩
    · intro i hi;obtain rfl:i=0:=(by omega);simp only [go_sem]
    rintro _ _ ⟨q3,q31,q32,rfl,t,ht1,_,rfl⟩
    simp only [go_sem,rdH]
    with_reducible repeat' (first|rw [i64w (by omega)];try simp only [go_sem]|refine br ?_ ?_<;>intro h e<;>(try simp only [e,go_sem])<;>clear e|refine sd ?_<;>try simp only [go_sem]|fail)
    refine pkN code q3 20 22 hc fun c c1 c2=>?_
    simp only [go_sem,rdH]
    have c2:=c2 (by omega)
    with_reducible repeat' (first|rw [i64w (by omega)];try simp only [go_sem]|refine br ?_ ?_<;>intro h e<;>(try simp only [e,go_sem])<;>clear e|refine sd ?_<;>try simp only [go_sem]|fail)
    · have:=0
      refine pkN code (q3+1) 4 26 hc fun d d1 d2=>?_
      simp only [go_sem,rdH]
      with_reducible repeat' (first|rw [i64w (by omega)];try simp only [go_sem]|refine br ?_ ?_<;>intro h e<;>(try simp only [e,go_sem])<;>clear e|refine sd ?_<;>try simp only [go_sem]|fail)
      exact fin _ _ (q3+1+1) ⟨d,e,f,b,t++[97]⟩ (by omega) (by simp only [List.length_append,List.length_cons,List.length_nil];omega) (by simp only [go_sem]) (by simp only [go_sem]) (by simp only [go_sem])
    · have:=0
      refine pkN code (q3+1) 3 32 hc fun d d1 d2=>?_
      simp only [go_sem,rdH]
      have d2:=d2 (by omega)
      rcases (show d=0∨d=1∨d=2 by omega) with rfl|rfl|rfl
      · have:=0
        with_reducible repeat' (first|rw [i64w (by omega)];try simp only [go_sem]|refine br ?_ ?_<;>intro h e<;>(try simp only [e,go_sem])<;>clear e|refine sd ?_<;>try simp only [go_sem]|fail)
        exact fin _ _ (q3+1+1) ⟨1+a,e,f,-1,t++[97]⟩ (by omega) (by simp only [List.length_append,List.length_cons,List.length_nil];omega) (by simp only [go_sem]) (by simp only [go_sem]) (by simp only [go_sem])
      · have:=0
        with_reducible repeat' (first|rw [i64w (by omega)];try simp only [go_sem]|refine br ?_ ?_<;>intro h e<;>(try simp only [e,go_sem])<;>clear e|refine sd ?_<;>try simp only [go_sem]|fail)
        exact fin _ _ (q3+1+1) ⟨1+a,e,f,99,t++[97]⟩ (by omega) (by simp only [List.length_append,List.length_cons,List.length_nil];omega) (by simp only [go_sem]) (by simp only [go_sem]) (by simp only [go_sem])
      · have:=0
        with_reducible repeat' (first|rw [i64w (by omega)];try simp only [go_sem]|refine br ?_ ?_<;>intro h e<;>(try simp only [e,go_sem])<;>clear e|refine sd ?_<;>try simp only [go_sem]|fail)
        exact fin _ _ (q3+1+1) ⟨1+a,e,f,100,t++[97]⟩ (by omega) (by simp only [List.length_append,List.length_cons,List.length_nil];omega) (by simp only [go_sem]) (by simp only [go_sem]) (by simp only [go_sem])
    · have:=0
      refine callN (c117 code (q3+1) words3 hc (by omega) (by decide)) [0] [1039] true 40 1 (by simp only [go_sem,rdH,words3,List.mem_singleton];first|done|simp) (by simp only [go_sem,rdH];first|done|simp) (by simp) (by simp) (by simp only [List.mem_singleton];rintro c rfl;exact ⟨rfl,by simp⟩) ?_ ?_ ?_
      · rintro _ _ ⟨q',_,_,rfl,_⟩
        exact ⟨by simp,by simp,.inl rfl,fun i hi=>by obtain rfl:i=0:=(by omega);simp [chH,stepOk,rdH]⟩
      · intro i hi;obtain rfl:i=0:=(by omega);simp only [go_sem]
      rintro _ _ ⟨q5,q51,q52,rfl,x,hx,rfl⟩
      simp only [go_sem,rdH]
      have hxl:=words3_le x hx
      with_reducible repeat' (first|rw [i64w (by omega)];try simp only [go_sem]|refine br ?_ ?_<;>intro h e<;>(try simp only [e,go_sem])<;>clear e|refine sd ?_<;>try simp only [go_sem]|fail)
      exact fin _ _ q5 ⟨1+a,e,f,b,x⟩ (by omega) (by simp only;omega) (by simp only [go_sem]) (by simp only [go_sem]) (by simp only [go_sem])
    · exact fin _ _ (q3+1) ⟨1+a,e,f,b,t++[97]⟩ (by omega) (by simp only [List.length_append,List.length_cons,List.length_nil];omega) (by simp only [go_sem]) (by simp only [go_sem]) (by simp only [go_sem])
  · have:=0
    with_reducible repeat' (first|rw [i64w (by omega)];try simp only [go_sem]|refine br ?_ ?_<;>intro h e<;>(try simp only [e,go_sem])<;>clear e|refine sd ?_<;>try simp only [go_sem]|fail)
    refine pkN code (q2+1) 20 22 hc fun c c1 c2=>?_
    simp only [go_sem,rdH]
    have c2:=c2 (by omega)
    with_reducible repeat' (first|rw [i64w (by omega)];try simp only [go_sem]|refine br ?_ ?_<;>intro h e<;>(try simp only [e,go_sem])<;>clear e|refine sd ?_<;>try simp only [go_sem]|fail)
    · have:=0
      refine pkN code ((q2+1)+1) 4 26 hc fun d d1 d2=>?_
      simp only [go_sem,rdH]
      with_reducible repeat' (first|rw [i64w (by omega)];try simp only [go_sem]|refine br ?_ ?_<;>intro h e<;>(try simp only [e,go_sem])<;>clear e|refine sd ?_<;>try simp only [go_sem]|fail)
      exact fin _ _ ((q2+1)+1+1) ⟨d,e,f,b,[]⟩ (by omega) (by simp) (by simp only [go_sem]) (by simp only [go_sem]) (by simp only [go_sem])
    · have:=0
      refine pkN code ((q2+1)+1) 3 32 hc fun d d1 d2=>?_
      simp only [go_sem,rdH]
      have d2:=d2 (by omega)
      rcases (show d=0∨d=1∨d=2 by omega) with rfl|rfl|rfl
      · have:=0
        with_reducible repeat' (first|rw [i64w (by omega)];try simp only [go_sem]|refine br ?_ ?_<;>intro h e<;>(try simp only [e,go_sem])<;>clear e|refine sd ?_<;>try simp only [go_sem]|fail)
        exact fin _ _ ((q2+1)+1+1) ⟨1+a,e,f,-1,[]⟩ (by omega) (by simp) (by simp only [go_sem]) (by simp only [go_sem]) (by simp only [go_sem])
      · have:=0
        with_reducible repeat' (first|rw [i64w (by omega)];try simp only [go_sem]|refine br ?_ ?_<;>intro h e<;>(try simp only [e,go_sem])<;>clear e|refine sd ?_<;>try simp only [go_sem]|fail)
        exact fin _ _ ((q2+1)+1+1) ⟨1+a,e,f,99,[]⟩ (by omega) (by simp) (by simp only [go_sem]) (by simp only [go_sem]) (by simp only [go_sem])
      · have:=0
        with_reducible repeat' (first|rw [i64w (by omega)];try simp only [go_sem]|refine br ?_ ?_<;>intro h e<;>(try simp only [e,go_sem])<;>clear e|refine sd ?_<;>try simp only [go_sem]|fail)
        exact fin _ _ ((q2+1)+1+1) ⟨1+a,e,f,100,[]⟩ (by omega) (by simp) (by simp only [go_sem]) (by simp only [go_sem]) (by simp only [go_sem])
    · have:=0
      refine callN (c117 code ((q2+1)+1) words3 hc (by omega) (by decide)) [0] [1039] true 40 1 (by simp only [go_sem,rdH,words3,List.mem_singleton];first|done|simp) (by simp only [go_sem,rdH];first|done|simp) (by simp) (by simp) (by simp only [List.mem_singleton];rintro c rfl;exact ⟨rfl,by simp⟩) ?_ ?_ ?_
      · rintro _ _ ⟨q',_,_,rfl,_⟩
        exact ⟨by simp,by simp,.inl rfl,fun i hi=>by obtain rfl:i=0:=(by omega);simp [chH,stepOk,rdH]⟩
      · intro i hi;obtain rfl:i=0:=(by omega);simp only [go_sem]
      rintro _ _ ⟨q5,q51,q52,rfl,x,hx,rfl⟩
      simp only [go_sem,rdH]
      have hxl:=words3_le x hx
      with_reducible repeat' (first|rw [i64w (by omega)];try simp only [go_sem]|refine br ?_ ?_<;>intro h e<;>(try simp only [e,go_sem])<;>clear e|refine sd ?_<;>try simp only [go_sem]|fail)
      exact fin _ _ q5 ⟨1+a,e,f,b,x⟩ (by omega) (by simp only;omega) (by simp only [go_sem]) (by simp only [go_sem]) (by simp only [go_sem])
    · exact fin _ _ ((q2+1)+1) ⟨1+a,e,f,b,[]⟩ (by omega) (by simp) (by simp only [go_sem]) (by simp only [go_sem]) (by simp only [go_sem])
theorem say_len {c:Conv} {up:Bool} {port n m:Int}:((say c up port n m).getD .zero).text.length≤m.toNat:=by
  unfold say
  cases up<;>simp only [if_true,if_false,Bool.false_eq_true]<;>split<;>simp only [Option.getD_some,Option.getD_none,Pk.zero,List.length_take,List.length_nil]<;>omega
theorem d90 (w:M.World) (i:E) (k:Nat) (hl:w.door.map.length≤2000000):FnP Tryz.prog G 90 0 [.dead] [.agg [.sl 10 (w.convs.map Conv.row),.sl 3 (w.door.map.map Pair.row),.own 0 k,.sl 7 (w.nets.map Pk.row)],.agg [.int .i64 i.a,.int .i64 i.p]] (fun r o=>r=.int .i64 (portOf w.door.map i)∧o=[]):=by
  refine mP dg90 Tryz.ntmps90 ⟨_,_,rfl,rfl⟩ ?_
  simp only [ic90,go_sem]
  refine loopN (fun j:Nat=>⟨getL [(2,.pv 1002 0),(3,.pv 1003 0),(5,.int .i64 (j:Int))],getH [(0,.dead),(1002,.var 66 [.sl 10 (w.convs.map Conv.row),.sl 3 (w.door.map.map Pair.row),.own 0 k,.sl 7 (w.nets.map Pk.row)]),(1003,.var 28 [.int .i64 i.a,.int .i64 i.p])]⟩) (fun j=>w.door.map.length - j)
    (fun j=>j≤w.door.map.length∧portOf w.door.map i=portOf (w.door.map.drop j) i) 0 (leQ []) ⟨Nat.zero_le _,by simp⟩ ?_
  intro j ⟨hk,ha⟩
  simp only [go_sem]
  by_cases h:(j:Int)<w.door.map.length
  · have hil:j<w.door.map.length:=by omega
    have hg:w.door.map.getD j default=w.door.map[j]:=by simp [List.getD,hil]
    rw [List.drop_eq_getElem_cons hil,portOf_cons] at ha
    simp only [eq_true h,go_sem]
    with_reducible repeat' (first|rw [i64w (by omega)];try simp only [go_sem,hg,E.ext_iff']|refine br ?_ ?_<;>intro h e<;>(try simp only [e,go_sem,hg,E.ext_iff'])<;>clear e|refine sd ?_<;>try simp only [go_sem,hg,E.ext_iff']|fail)
    · rw [if_pos (by assumption)] at ha
      exact retN (.int .i64 (portOf w.door.map i)) [] [] (by simp only [go_sem,ha,hg];first|done|simp) ⟨rfl,rfl⟩ (by simp only [go_sem]) (by simp [argH]) (by simp only [go_sem])
    · rw [if_neg (by assumption)] at ha
      exact ⟨j+1,by omega,⟨by omega,ha⟩,(leQ [])⟩
  · simp only [eq_false h,go_sem]
    have:j=w.door.map.length:=by omega
    subst this
    rw [List.drop_length] at ha
    exact retN (.int .i64 (portOf w.door.map i)) [] [] (by simp only [go_sem,ha];first|done|rfl|simp [portOf]) ⟨rfl,rfl⟩ (by simp only [go_sem]) (by simp [argH]) (by simp only [go_sem])
def ic49:IC:=sR [oP 4 (.box 66 (.t 1)),oP 6 (.alloc 30 [i0,i0,i0,i0,i0,i0,s0])] (.seq (.drw [0,1,0,0,8,24,60,127,255,0,1023] [(0,fD 10 0 4),(1,lD 11 1 10),(2,mV 12 0),(3,fD 13 0 4),(4,lD 14 1 13),(5,oP 15 (.len (.t 14))),(6,oP 16 (.call 77 [.t 12,.t 15])),(7,oP 17 (.iad 10 (.t 11) (.t 16))),(8,lA 18 10 17),(9,oP 7 (.alloc 107 [i0,i0,i0,i0,s0,s0,i0,i0,s0,s0])),(10,nP (.sto 10 (.t 7) (.t 18)))]) (.seq (.drw [0,0,0,0,8,28,0,124,0,508,1020,2047,4095,8191,8191,0,49151,131071] [(0,lA 20 10 7),(1,mV 21 2),(2,lA 22 4 4),(3,fD 23 0 7),(4,lA 24 2 23),(5,oP 25 (.call 90 [.t 22,.t 24])),(6,mV 26 0),(7,oP 27 (.call 77 [.t 26,.c (.int .i64 5)])),(8,mV 28 0),(9,oP 29 (.call 77 [.t 28,.c (.int .i64 24)])),(10,oP 30 (.bin .add (.c (.int .i64 1)) (.t 29))),(11,oP 31 (.call 89 [.t 20,.t 21,.t 25,.t 27,.t 30])),(12,mV 19 31),(13,eX 32 19 0),(14,eX 33 19 1),(15,oP 8 (.alloc 30 [i0,i0,i0,i0,i0,i0,s0])),(16,nP (.sto 7 (.t 8) (.t 32))),(17,mV 9 33)]) (.seq (sR [mV 34 0,oP 35 (.call 77 [.t 34,.c (.int .i64 3)]),oP 36 (.bin .eql (.t 35) (.c i0))] (.cond (.t 36) (.seq (.drw [0,1,0,4,0,16,63,127] [(0,fD 37 0 7),(1,lA 38 2 37),(2,fD 39 2 7),(3,lA 40 2 39),(4,mV 41 0),(5,oP 42 (.call 77 [.t 41,.c (.int .i64 8)])),(6,oP 43 (.build [i0,i0,i0,i0,i0,i0,s0] [(0,(1,.c (.int .i64 2))),(1,(2,.t 38)),(3,(2,.t 40)),(5,(1,.t 42))])),(7,nP (.sto 7 (.t 8) (.t 43)))]) (.seq (sR [mV 44 2,oP 45 (.un .not (.t 44))] (.cond (.t 45) (sR [fD 46 2 7,lA 47 2 46,fD 48 1 8,nP (.sto 2 (.t 48) (.t 47))] (.reg [lA 49 4 4,fD 50 0 7,lA 51 2 50,oP 52 (.call 90 [.t 49,.t 51]),oP 53 (.mx (.t 52) (.c (.int .i64 10))),oP 54 (.build [i0,i0] [(0,(1,.c (.int .i64 9))),(1,(1,.t 53))]),fD 55 3 8,nP (.sto 2 (.t 55) (.t 54))])) .skip)) (.reg [oP 9 (.mv (.c (.bool true)))]))) .skip)) (.seq (sR [mV 56 9,oP 57 (.un .not (.t 56)),mV 58 57,⟨some 59,some (58,false),.mv (.t 0)⟩,⟨some 60,some (58,false),.call 77 [.t 59,.c (.int .i64 10)]⟩,⟨some 61,some (58,false),.bin .eql (.t 60) (.c i0)⟩,oP 62 (.pick (.t 58) (.c (.bool true)) (.t 61))] (.cond (.t 62) (sR [mV 63 0,oP 64 (.call 82 [.t 63]),nP (.sto 7 (.t 6) (.t 64))] .ret) .skip)) (sR [lA 65 7 8,nP (.sto 7 (.t 6) (.t 65))] .ret)))))
theorem dg49:Dg Tryz.prog 49 Tryz.f49 ic49 [(.cell 6 7 true)]:=⟨Tryz.func49,by kernel_rfl,by kernel_rfl⟩
theorem c49 (code:B) (p:Int) (w:M.World) (out:Bool) (hc:code.length≤2000) (hp:0≤p∧p≤500000000) (h1:1≤w.convs.length∧w.convs.length≤1000) (h2:w.door.map.length≤1000) (h3:∀ c∈w.convs,c.up.length≤50∧c.down.length≤50) :
    FnP Tryz.prog G 49 1 [rdH code p] [.pv 0 0,.agg [.sl 10 (w.convs.map Conv.row),.sl 3 (w.door.map.map Pair.row),.sl 8 (w.door.flows.map Flw.row),.sl 7 (w.nets.map Pk.row)],.bool out] (rdQ code p 80 pkQ):=by
  refine mP dg49 Tryz.ntmps49 ⟨_,_,p,by omega,by omega,rfl,.zero,by simp [Pk.zero],rfl⟩ ?_
  have fin:∀ l mm (p':Int) (k:Pk),(p≤p'∧p'≤p+80)→k.text.length≤50→getL l 6=.pv 1006 0→getH mm 1006=.var 30 (Pk.row k)→getH mm 0=.var 99 [.sl 1 (code.map byR),.int .i64 p']→retQ [.cell 6 7 true] 1 (rdQ code p 80 pkQ) .ret ⟨getL l,getH mm⟩:=fun l mm p' k h1 h2 h3 h4 h5=>by
    refine retN (.agg (Pk.row k)) [rdH code p'] [] ?_ ⟨p',h1.1,h1.2,rfl,k,h2,rfl⟩ ?_ (by simp [argH,getN,rdH]) (by simp only [go_sem,rdH])
    · simp only [go_sem,h3,h4]
    · simp only [go_sem,rdH,h5]
  simp only [ic49,go_sem,rdH]
  with_reducible repeat' (first|rw [i64w (by omega)];try simp only [go_sem]|refine br ?_ ?_<;>intro h e<;>(try simp only [e,go_sem])<;>clear e|refine sd ?_<;>try simp only [go_sem]|fail)
  refine pkN code p w.convs.length 16 hc fun x x1 x2=>?_
  simp only [go_sem,rdH]
  have x2:=x2 (by omega)
  have hil:x.toNat<w.convs.length:=by omega
  obtain ⟨c,hcc,hcm⟩:∃ c,w.convs.getD x.toNat default=c∧c∈w.convs:=⟨_,rfl,by simp [List.getD,hil]⟩
  obtain ⟨c1,c2⟩:=h3 c hcm
  clear h3
  with_reducible repeat' (first|rw [i64w (by omega)];try simp only [go_sem,getD_mp hil,hcc]|refine br ?_ ?_<;>intro h e<;>(try simp only [e,go_sem,getD_mp hil,hcc])<;>clear e|refine sd ?_<;>try simp only [go_sem,getD_mp hil,hcc]|fail)
  refine callR (c90 w c.ins (by omega)) rfl rfl ?_
  simp only [go_sem]
  with_reducible repeat' (first|rw [i64w (by omega)];try simp only [go_sem]|refine br ?_ ?_<;>intro h e<;>(try simp only [e,go_sem])<;>clear e|refine sd ?_<;>try simp only [go_sem]|fail)
  refine pkN code (p+1) 5 27 hc fun y y1 y2=>?_
  simp only [go_sem,rdH]
  have y2:=y2 (by omega)
  with_reducible repeat' (first|rw [i64w (by omega)];try simp only [go_sem]|refine br ?_ ?_<;>intro h e<;>(try simp only [e,go_sem])<;>clear e|refine sd ?_<;>try simp only [go_sem]|fail)
  refine pkN code ((p+1)+1) 24 29 hc fun z z1 z2=>?_
  simp only [go_sem,rdH]
  have z2:=z2 (by omega)
  with_reducible repeat' (first|rw [i64w (by omega)];try simp only [go_sem]|refine br ?_ ?_<;>intro h e<;>(try simp only [e,go_sem])<;>clear e|refine sd ?_<;>try simp only [go_sem]|fail)
  refine callR (c89 c out (portOf w.door.map c.ins) y (1+z) (by omega) (by omega)) rfl rfl ?_
  have hsl:=say_len (c:=c) (up:=out) (port:=portOf w.door.map c.ins) (n:=y) (m:=1+z)
  simp only [go_sem]
  generalize (say c out (portOf w.door.map c.ins) y (1+z)).isSome=ok
  generalize (say c out (portOf w.door.map c.ins) y (1+z)).getD .zero=q0 at *
  have hq0:q0.text.length≤50:=by omega
  clear hsl
  obtain ⟨r,hr⟩:∃ r,r=p+1+1+1:=⟨_,rfl⟩
  rw [← hr]
  with_reducible repeat' (first|rw [i64w (by omega)];try simp only [go_sem]|refine br ?_ ?_<;>intro h e<;>(try simp only [e,go_sem])<;>clear e|refine sd ?_<;>try simp only [go_sem]|fail)
  refine pkN code r 3 35 hc fun u u1 u2=>?_
  simp only [go_sem,rdH]
  with_reducible repeat' (first|rw [i64w (by omega)];try simp only [go_sem]|refine br ?_ ?_<;>intro h e<;>(try simp only [e,go_sem])<;>clear e|refine sd ?_<;>try simp only [go_sem]|fail)
  · have:=0
    refine pkN code (r+1) 8 42 hc fun t t1 t2=>?_
    simp only [go_sem,rdH]
    cases out<;>simp only [go_sem]
    · with_reducible repeat' (first|rw [i64w (by omega)];try simp only [go_sem]|refine br ?_ ?_<;>intro h e<;>(try simp only [e,go_sem])<;>clear e|refine sd ?_<;>try simp only [go_sem]|fail)
      refine callR (c90 w c.ins (by omega)) rfl rfl ?_
      simp only [go_sem]
      with_reducible repeat' (first|rw [i64w (by omega)];try simp only [go_sem]|refine br ?_ ?_<;>intro h e<;>(try simp only [e,go_sem])<;>clear e|refine sd ?_<;>try simp only [go_sem]|fail)
      refine pkN code (r+1+1) 10 60 hc fun v v1 v2=>?_
      simp only [go_sem,rdH]
      with_reducible repeat' (first|rw [i64w (by omega)];try simp only [go_sem]|refine br ?_ ?_<;>intro h e<;>(try simp only [e,go_sem])<;>clear e|refine sd ?_<;>try simp only [go_sem]|fail)
      · have:=0
        refine callN (c82 code (r+1+1+1) hc (by omega)) [0] [] true 64 1 (by simp only [go_sem,rdH];first|done|simp) (by simp only [go_sem,rdH];first|done|simp) (by simp) (by simp) (by simp) ?_ ?_ ?_
        · rintro _ _ ⟨q',_,_,rfl,_⟩
          exact ⟨by simp,by simp,.inl rfl,fun i hi=>by obtain rfl:i=0:=(by omega);simp [chH,stepOk,rdH]⟩
        · intro i hi;obtain rfl:i=0:=(by omega);simp only [go_sem]
        rintro _ _ ⟨q5,q51,q52,rfl,pk,hpk,rfl⟩
        simp only [go_sem,rdH]
        with_reducible repeat' (first|rw [i64w (by omega)];try simp only [go_sem]|refine br ?_ ?_<;>intro h e<;>(try simp only [e,go_sem])<;>clear e|refine sd ?_<;>try simp only [go_sem]|fail)
        exact fin _ _ q5 pk (by omega) hpk (by simp only [go_sem]) (by simp only [go_sem]) (by simp only [go_sem])
      · exact fin _ _ (r+1+1+1) ⟨2,c.out,⟨9,max (portOf w.door.map c.ins) 10⟩,t,[]⟩ (by omega) (by first|assumption|simp) (by simp only [go_sem]) (by simp only [go_sem]) (by simp only [go_sem])
    · with_reducible repeat' (first|rw [i64w (by omega)];try simp only [go_sem]|refine br ?_ ?_<;>intro h e<;>(try simp only [e,go_sem])<;>clear e|refine sd ?_<;>try simp only [go_sem]|fail)
      refine pkN code (r+1+1) 10 60 hc fun v v1 v2=>?_
      simp only [go_sem,rdH]
      with_reducible repeat' (first|rw [i64w (by omega)];try simp only [go_sem]|refine br ?_ ?_<;>intro h e<;>(try simp only [e,go_sem])<;>clear e|refine sd ?_<;>try simp only [go_sem]|fail)
      · have:=0
        refine callN (c82 code (r+1+1+1) hc (by omega)) [0] [] true 64 1 (by simp only [go_sem,rdH];first|done|simp) (by simp only [go_sem,rdH];first|done|simp) (by simp) (by simp) (by simp) ?_ ?_ ?_
        · rintro _ _ ⟨q',_,_,rfl,_⟩
          exact ⟨by simp,by simp,.inl rfl,fun i hi=>by obtain rfl:i=0:=(by omega);simp [chH,stepOk,rdH]⟩
        · intro i hi;obtain rfl:i=0:=(by omega);simp only [go_sem]
        rintro _ _ ⟨q5,q51,q52,rfl,pk,hpk,rfl⟩
        simp only [go_sem,rdH]
        with_reducible repeat' (first|rw [i64w (by omega)];try simp only [go_sem]|refine br ?_ ?_<;>intro h e<;>(try simp only [e,go_sem])<;>clear e|refine sd ?_<;>try simp only [go_sem]|fail)
        exact fin _ _ q5 pk (by omega) hpk (by simp only [go_sem]) (by simp only [go_sem]) (by simp only [go_sem])
      · exact fin _ _ (r+1+1+1) ⟨2,c.ins,c.out,t,[]⟩ (by omega) (by first|assumption|simp) (by simp only [go_sem]) (by simp only [go_sem]) (by simp only [go_sem])
  · have:=0
    refine callN (c82 code (r+1) hc (by omega)) [0] [] true 64 1 (by simp only [go_sem,rdH];first|done|simp) (by simp only [go_sem,rdH];first|done|simp) (by simp) (by simp) (by simp) ?_ ?_ ?_
    · rintro _ _ ⟨q',_,_,rfl,_⟩
      exact ⟨by simp,by simp,.inl rfl,fun i hi=>by obtain rfl:i=0:=(by omega);simp [chH,stepOk,rdH]⟩
    · intro i hi;obtain rfl:i=0:=(by omega);simp only [go_sem]
    rintro _ _ ⟨q5,q51,q52,rfl,pk,hpk,rfl⟩
    simp only [go_sem,rdH]
    with_reducible repeat' (first|rw [i64w (by omega)];try simp only [go_sem]|refine br ?_ ?_<;>intro h e<;>(try simp only [e,go_sem])<;>clear e|refine sd ?_<;>try simp only [go_sem]|fail)
    exact fin _ _ q5 pk (by omega) hpk (by simp only [go_sem]) (by simp only [go_sem]) (by simp only [go_sem])
  · have:=0
    refine pkN code (r+1) 10 60 hc fun v v1 v2=>?_
    simp only [go_sem,rdH]
    with_reducible repeat' (first|rw [i64w (by omega)];try simp only [go_sem]|refine br ?_ ?_<;>intro h e<;>(try simp only [e,go_sem])<;>clear e|refine sd ?_<;>try simp only [go_sem]|fail)
    · have:=0
      refine callN (c82 code (r+1+1) hc (by omega)) [0] [] true 64 1 (by simp only [go_sem,rdH];first|done|simp) (by simp only [go_sem,rdH];first|done|simp) (by simp) (by simp) (by simp) ?_ ?_ ?_
      · rintro _ _ ⟨q',_,_,rfl,_⟩
        exact ⟨by simp,by simp,.inl rfl,fun i hi=>by obtain rfl:i=0:=(by omega);simp [chH,stepOk,rdH]⟩
      · intro i hi;obtain rfl:i=0:=(by omega);simp only [go_sem]
      rintro _ _ ⟨q5,q51,q52,rfl,pk,hpk,rfl⟩
      simp only [go_sem,rdH]
      with_reducible repeat' (first|rw [i64w (by omega)];try simp only [go_sem]|refine br ?_ ?_<;>intro h e<;>(try simp only [e,go_sem])<;>clear e|refine sd ?_<;>try simp only [go_sem]|fail)
      exact fin _ _ q5 pk (by omega) hpk (by simp only [go_sem]) (by simp only [go_sem]) (by simp only [go_sem])
    · exact fin _ _ (r+1+1) q0 (by omega) (by first|assumption|simp) (by simp only [go_sem]) (by simp only [go_sem]) (by simp only [go_sem])
theorem d49 (code:B) (p:Int) (w:M.World) (k:Nat) (out:Bool) (hc:code.length≤2000) (hp:0≤p∧p≤500000000) (h1:1≤w.convs.length∧w.convs.length≤1000) (h2:w.door.map.length≤1000) (h3:∀ c∈w.convs,c.up.length≤50∧c.down.length≤50) :
    FnP Tryz.prog G 49 1 [rdH code p,.dead] [.pv 0 0,.agg [.sl 10 (w.convs.map Conv.row),.sl 3 (w.door.map.map Pair.row),.own 1 k,.sl 7 (w.nets.map Pk.row)],.bool out] (rdQ code p 80 pkQ):=by
  refine mP dg49 Tryz.ntmps49 ⟨_,_,p,by omega,by omega,rfl,.zero,by simp [Pk.zero],rfl⟩ ?_
  have fin:∀ l mm (p':Int) (k:Pk),(p≤p'∧p'≤p+80)→k.text.length≤50→getL l 6=.pv 1006 0→getH mm 1006=.var 30 (Pk.row k)→getH mm 0=.var 99 [.sl 1 (code.map byR),.int .i64 p']→retQ [.cell 6 7 true] 1 (rdQ code p 80 pkQ) .ret ⟨getL l,getH mm⟩:=fun l mm p' k h1 h2 h3 h4 h5=>by
    refine retN (.agg (Pk.row k)) [rdH code p'] [] ?_ ⟨p',h1.1,h1.2,rfl,k,h2,rfl⟩ ?_ (by simp [argH,getN,rdH]) (by simp only [go_sem,rdH])
    · simp only [go_sem,h3,h4]
    · simp only [go_sem,rdH,h5]
  simp only [ic49,go_sem,rdH]
  with_reducible repeat' (first|rw [i64w (by omega)];try simp only [go_sem]|refine br ?_ ?_<;>intro h e<;>(try simp only [e,go_sem])<;>clear e|refine sd ?_<;>try simp only [go_sem]|fail)
  refine pkN code p w.convs.length 16 hc fun x x1 x2=>?_
  simp only [go_sem,rdH]
  have x2:=x2 (by omega)
  have hil:x.toNat<w.convs.length:=by omega
  obtain ⟨c,hcc,hcm⟩:∃ c,w.convs.getD x.toNat default=c∧c∈w.convs:=⟨_,rfl,by simp [List.getD,hil]⟩
  obtain ⟨c1,c2⟩:=h3 c hcm
  clear h3
  with_reducible repeat' (first|rw [i64w (by omega)];try simp only [go_sem,getD_mp hil,hcc]|refine br ?_ ?_<;>intro h e<;>(try simp only [e,go_sem,getD_mp hil,hcc])<;>clear e|refine sd ?_<;>try simp only [go_sem,getD_mp hil,hcc]|fail)
  refine callDd (d90 w c.ins k (by omega)) [1] 25 0 (by simp only [go_sem];first|done|simp) (by simp only [go_sem];first|done|simp) (by simp) (by simp) (by intro i hi;omega) (by rintro _ _ ⟨rfl,rfl⟩;exact ⟨by simp,by simp,fun i hi=>by omega⟩) (by intro i hi;omega) ?_
  rintro _ _ ⟨rfl,rfl⟩
  simp only [go_sem]
  with_reducible repeat' (first|rw [i64w (by omega)];try simp only [go_sem]|refine br ?_ ?_<;>intro h e<;>(try simp only [e,go_sem])<;>clear e|refine sd ?_<;>try simp only [go_sem]|fail)
  refine pkN code (p+1) 5 27 hc fun y y1 y2=>?_
  simp only [go_sem,rdH]
  have y2:=y2 (by omega)
  with_reducible repeat' (first|rw [i64w (by omega)];try simp only [go_sem]|refine br ?_ ?_<;>intro h e<;>(try simp only [e,go_sem])<;>clear e|refine sd ?_<;>try simp only [go_sem]|fail)
  refine pkN code ((p+1)+1) 24 29 hc fun z z1 z2=>?_
  simp only [go_sem,rdH]
  have z2:=z2 (by omega)
  with_reducible repeat' (first|rw [i64w (by omega)];try simp only [go_sem]|refine br ?_ ?_<;>intro h e<;>(try simp only [e,go_sem])<;>clear e|refine sd ?_<;>try simp only [go_sem]|fail)
  refine callR (c89 c out (portOf w.door.map c.ins) y (1+z) (by omega) (by omega)) rfl rfl ?_
  have hsl:=say_len (c:=c) (up:=out) (port:=portOf w.door.map c.ins) (n:=y) (m:=1+z)
  simp only [go_sem]
  generalize (say c out (portOf w.door.map c.ins) y (1+z)).isSome=ok
  generalize (say c out (portOf w.door.map c.ins) y (1+z)).getD .zero=q0 at *
  have hq0:q0.text.length≤50:=by omega
  clear hsl
  obtain ⟨r,hr⟩:∃ r,r=p+1+1+1:=⟨_,rfl⟩
  rw [← hr]
  with_reducible repeat' (first|rw [i64w (by omega)];try simp only [go_sem]|refine br ?_ ?_<;>intro h e<;>(try simp only [e,go_sem])<;>clear e|refine sd ?_<;>try simp only [go_sem]|fail)
  refine pkN code r 3 35 hc fun u u1 u2=>?_
  simp only [go_sem,rdH]
  with_reducible repeat' (first|rw [i64w (by omega)];try simp only [go_sem]|refine br ?_ ?_<;>intro h e<;>(try simp only [e,go_sem])<;>clear e|refine sd ?_<;>try simp only [go_sem]|fail)
  · have:=0
    refine pkN code (r+1) 8 42 hc fun t t1 t2=>?_
    simp only [go_sem,rdH]
    cases out<;>simp only [go_sem]
    · with_reducible repeat' (first|rw [i64w (by omega)];try simp only [go_sem]|refine br ?_ ?_<;>intro h e<;>(try simp only [e,go_sem])<;>clear e|refine sd ?_<;>try simp only [go_sem]|fail)
      refine callDd (d90 w c.ins k (by omega)) [1] 52 0 (by simp only [go_sem];first|done|simp) (by simp only [go_sem];first|done|simp) (by simp) (by simp) (by intro i hi;omega) (by rintro _ _ ⟨rfl,rfl⟩;exact ⟨by simp,by simp,fun i hi=>by omega⟩) (by intro i hi;omega) ?_
      rintro _ _ ⟨rfl,rfl⟩
      simp only [go_sem]
      with_reducible repeat' (first|rw [i64w (by omega)];try simp only [go_sem]|refine br ?_ ?_<;>intro h e<;>(try simp only [e,go_sem])<;>clear e|refine sd ?_<;>try simp only [go_sem]|fail)
      refine pkN code (r+1+1) 10 60 hc fun v v1 v2=>?_
      simp only [go_sem,rdH]
      with_reducible repeat' (first|rw [i64w (by omega)];try simp only [go_sem]|refine br ?_ ?_<;>intro h e<;>(try simp only [e,go_sem])<;>clear e|refine sd ?_<;>try simp only [go_sem]|fail)
      · have:=0
        refine callN (c82 code (r+1+1+1) hc (by omega)) [0] [] true 64 1 (by simp only [go_sem,rdH];first|done|simp) (by simp only [go_sem,rdH];first|done|simp) (by simp) (by simp) (by simp) ?_ ?_ ?_
        · rintro _ _ ⟨q',_,_,rfl,_⟩
          exact ⟨by simp,by simp,.inl rfl,fun i hi=>by obtain rfl:i=0:=(by omega);simp [chH,stepOk,rdH]⟩
        · intro i hi;obtain rfl:i=0:=(by omega);simp only [go_sem]
        rintro _ _ ⟨q5,q51,q52,rfl,pk,hpk,rfl⟩
        simp only [go_sem,rdH]
        with_reducible repeat' (first|rw [i64w (by omega)];try simp only [go_sem]|refine br ?_ ?_<;>intro h e<;>(try simp only [e,go_sem])<;>clear e|refine sd ?_<;>try simp only [go_sem]|fail)
        exact fin _ _ q5 pk (by omega) hpk (by simp only [go_sem]) (by simp only [go_sem]) (by simp only [go_sem])
      · exact fin _ _ (r+1+1+1) ⟨2,c.out,⟨9,max (portOf w.door.map c.ins) 10⟩,t,[]⟩ (by omega) (by first|assumption|simp) (by simp only [go_sem]) (by simp only [go_sem]) (by simp only [go_sem])
    · with_reducible repeat' (first|rw [i64w (by omega)];try simp only [go_sem]|refine br ?_ ?_<;>intro h e<;>(try simp only [e,go_sem])<;>clear e|refine sd ?_<;>try simp only [go_sem]|fail)
      refine pkN code (r+1+1) 10 60 hc fun v v1 v2=>?_
      simp only [go_sem,rdH]
      with_reducible repeat' (first|rw [i64w (by omega)];try simp only [go_sem]|refine br ?_ ?_<;>intro h e<;>(try simp only [e,go_sem])<;>clear e|refine sd ?_<;>try simp only [go_sem]|fail)
      · have:=0
        refine callN (c82 code (r+1+1+1) hc (by omega)) [0] [] true 64 1 (by simp only [go_sem,rdH];first|done|simp) (by simp only [go_sem,rdH];first|done|simp) (by simp) (by simp) (by simp) ?_ ?_ ?_
        · rintro _ _ ⟨q',_,_,rfl,_⟩
          exact ⟨by simp,by simp,.inl rfl,fun i hi=>by obtain rfl:i=0:=(by omega);simp [chH,stepOk,rdH]⟩
        · intro i hi;obtain rfl:i=0:=(by omega);simp only [go_sem]
        rintro _ _ ⟨q5,q51,q52,rfl,pk,hpk,rfl⟩
        simp only [go_sem,rdH]
        with_reducible repeat' (first|rw [i64w (by omega)];try simp only [go_sem]|refine br ?_ ?_<;>intro h e<;>(try simp only [e,go_sem])<;>clear e|refine sd ?_<;>try simp only [go_sem]|fail)
        exact fin _ _ q5 pk (by omega) hpk (by simp only [go_sem]) (by simp only [go_sem]) (by simp only [go_sem])
      · exact fin _ _ (r+1+1+1) ⟨2,c.ins,c.out,t,[]⟩ (by omega) (by first|assumption|simp) (by simp only [go_sem]) (by simp only [go_sem]) (by simp only [go_sem])
  · have:=0
    refine callN (c82 code (r+1) hc (by omega)) [0] [] true 64 1 (by simp only [go_sem,rdH];first|done|simp) (by simp only [go_sem,rdH];first|done|simp) (by simp) (by simp) (by simp) ?_ ?_ ?_
    · rintro _ _ ⟨q',_,_,rfl,_⟩
      exact ⟨by simp,by simp,.inl rfl,fun i hi=>by obtain rfl:i=0:=(by omega);simp [chH,stepOk,rdH]⟩
    · intro i hi;obtain rfl:i=0:=(by omega);simp only [go_sem]
    rintro _ _ ⟨q5,q51,q52,rfl,pk,hpk,rfl⟩
    simp only [go_sem,rdH]
    with_reducible repeat' (first|rw [i64w (by omega)];try simp only [go_sem]|refine br ?_ ?_<;>intro h e<;>(try simp only [e,go_sem])<;>clear e|refine sd ?_<;>try simp only [go_sem]|fail)
    exact fin _ _ q5 pk (by omega) hpk (by simp only [go_sem]) (by simp only [go_sem]) (by simp only [go_sem])
  · have:=0
    refine pkN code (r+1) 10 60 hc fun v v1 v2=>?_
    simp only [go_sem,rdH]
    with_reducible repeat' (first|rw [i64w (by omega)];try simp only [go_sem]|refine br ?_ ?_<;>intro h e<;>(try simp only [e,go_sem])<;>clear e|refine sd ?_<;>try simp only [go_sem]|fail)
    · have:=0
      refine callN (c82 code (r+1+1) hc (by omega)) [0] [] true 64 1 (by simp only [go_sem,rdH];first|done|simp) (by simp only [go_sem,rdH];first|done|simp) (by simp) (by simp) (by simp) ?_ ?_ ?_
      · rintro _ _ ⟨q',_,_,rfl,_⟩
        exact ⟨by simp,by simp,.inl rfl,fun i hi=>by obtain rfl:i=0:=(by omega);simp [chH,stepOk,rdH]⟩
      · intro i hi;obtain rfl:i=0:=(by omega);simp only [go_sem]
      rintro _ _ ⟨q5,q51,q52,rfl,pk,hpk,rfl⟩
      simp only [go_sem,rdH]
      with_reducible repeat' (first|rw [i64w (by omega)];try simp only [go_sem]|refine br ?_ ?_<;>intro h e<;>(try simp only [e,go_sem])<;>clear e|refine sd ?_<;>try simp only [go_sem]|fail)
      exact fin _ _ q5 pk (by omega) hpk (by simp only [go_sem]) (by simp only [go_sem]) (by simp only [go_sem])
    · exact fin _ _ (r+1+1) q0 (by omega) (by first|assumption|simp) (by simp only [go_sem]) (by simp only [go_sem]) (by simp only [go_sem])
def DrD (d:Door):Prop:=DB d∧d.flows.length≤3∧DoorQ d
def DrW (w:M.World):Prop:=(1≤w.convs.length∧w.convs.length≤1000)∧w.door.map.length≤1000∧∀ c∈w.convs,c.up.length≤50∧c.down.length≤50
def doorP (code:B) (p:Int) (r:V) (o:List Hs):Prop:=∃ (p':Int) (d:Door) (w:M.World),(p≤p'∧p'≤p+4300)∧DrD d∧DrW w ∧
  ((r=.tup [.agg [.sl 3 (d.map.map Pair.row),.sl 8 (d.flows.map Flw.row)],.agg [.sl 10 (w.convs.map Conv.row),.sl 3 (w.door.map.map Pair.row),.sl 8 (w.door.flows.map Flw.row),.sl 7 (w.nets.map Pk.row)]]∧o=[rdH code p']) ∨
   ∃ k:Nat,r=.tup [.agg [.sl 3 (d.map.map Pair.row),.sl 8 (d.flows.map Flw.row)],.agg [.sl 10 (w.convs.map Conv.row),.sl 3 (w.door.map.map Pair.row),.own 1 k,.sl 7 (w.nets.map Pk.row)]]∧o=[rdH code p',.dead])
theorem wi_drd {w:M.World} (hp:PW w):DrD w.door:=by
  have h:=hp.1
  obtain ⟨hdm,hdf,_⟩:=doorOk_iff.1 h.door
  have hm:=(mapOk_ports hdm).2
  have hs:=(hp.si net_step fun cs w0 h=>by rw [(worldNew_is h).2.2.1];intro f hf;cases hf).k
  refine ⟨⟨by omega,by omega,fun f hf=>?_⟩,by have:=h.flows2;omega,doorS_q h.door hs⟩
  obtain ⟨k,hk⟩:=List.mem_iff_getElem?.1 hf
  obtain ⟨_,_,h1,h2,_⟩:=flow_at h.door hk
  exact ⟨(strmOk_B h1).sb,(strmOk_B h2).sb⟩
theorem wi_drw {w:M.World} (h:WI w) (h1:1≤w.convs.length):DrW w:=by
  have hm:=(mapOk_ports (doorOk_iff.1 h.door).1).2
  have:=h.cl
  refine ⟨by omega,by omega,fun c hc=>?_⟩
  have hb:=convOk_B (h.cv c hc)
  have h1:=hb.up;have h2:=hb.down
  omega
theorem drd_map {d:Door} (h:DrD d) {m:List Pair} (hm:m.length≤10):DrD ⟨m,d.flows⟩:=⟨⟨by simp only;omega,h.1.2⟩,h.2.1,h.2.2⟩
theorem drd_app {d:Door} (h:DrD d) {f:Flw} (hf:f∈d.flows) (hl:d.flows.length≤2):DrD ⟨d.map,d.flows++[f]⟩:=by
  have hmem:∀ g∈d.flows++[f],g∈d.flows:=fun g hg=>by
    rcases List.mem_append.1 hg with hg|hg
    · exact hg
    · simp only [List.mem_singleton] at hg;rw [hg];exact hf
  exact ⟨⟨h.1.1,by simp;omega,fun g hg=>h.1.2.2 g (hmem g hg)⟩,by simp;omega,fun g hg=>h.2.2 g (hmem g hg)⟩
theorem drd_set {d:Door} {f:Flw} {l:List Flw} (h:DrD d) (hf:d.flows=f :: l) {s:Strm} (hs:s.inn.length≤31∧s.parts.length≤40∧∀ x∈s.parts,x.text.length≤8) (hq:(sOut s).length≤50):DrD ⟨d.map,⟨f.ins,f.out,s,f.down⟩ :: l⟩:=by
  obtain ⟨⟨h1,h2,h3⟩,h4,h5⟩:=h
  unfold DoorQ at h5
  rw [hf] at h2 h3 h4 h5
  refine ⟨⟨h1,by simpa using h2,fun g hg=>?_⟩,by simpa using h4,fun g hg=>?_⟩
  · rcases List.mem_cons.1 hg with rfl|hg
    · exact ⟨⟨by simp only;omega,by simp only;omega,fun x hx=>by have:=hs.2.2 x hx;omega⟩,(h3 f (by simp)).2⟩
    · exact h3 g (List.mem_cons_of_mem _ hg)
  · rcases List.mem_cons.1 hg with rfl|hg
    · exact ⟨hq,(h5 f (by simp)).2⟩
    · exact h5 g (List.mem_cons_of_mem _ hg)
def ic48:IC:=sR [oP 2 (.alloc 26 [.nils,.nils]),oP 3 (.alloc 66 [.nils,.nils,.nils,.nils])] (sR [mV 9 0,oP 10 (.call 86 [.t 9]),mV 8 10,eX 11 8 0,eX 12 8 1,eX 13 8 2,oP 6 (.alloc 66 [.nils,.nils,.nils,.nils]),mV 4 11,mV 5 12,nP (.sto 4 (.t 6) (.t 13))] (sR [fD 14 1 6,lA 15 2 14,oP 7 (.alloc 26 [.nils,.nils]),nP (.sto 2 (.t 7) (.t 15))] (.seq (sR [mV 16 0,oP 17 (.call 77 [.t 16,.c (.int .i64 24)])] (.block 0 (sR [oP 19 (.bin .eql (.t 17) (.c i0)),mV 18 19] (.cond (.t 18) (.reg [mV 20 0,oP 21 (.call 87 [.t 20]),fD 22 0 7,nP (.sto 1 (.t 22) (.t 21))]) (sR [oP 24 (.bin .eql (.t 17) (.c (.int .i64 1))),mV 23 24] (.cond (.t 23) (sR [fD 25 1 7,lD 26 1 25,oP 27 (.len (.t 26)),oP 28 (.bin .gtr (.t 27) (.c i0))] (.cond (.t 28) (.drw [0,1,0,4,12,28,60,127,255,511] [(0,fD 29 1 7),(1,lD 30 1 29),(2,fD 31 1 7),(3,lD 32 1 31),(4,oP 33 (.iad 8 (.t 32) (.c i0))),(5,lA 34 8 33),(6,oP 35 (.bsl 46 8 [.t 34])),(7,oP 36 (.app 46 8 (.t 30) (.t 35))),(8,fD 37 1 7),(9,nP (.sto 1 (.t 37) (.t 36)))]) .skip)) (sR [oP 39 (.bin .eql (.t 17) (.c (.int .i64 2))),mV 38 39] (.cond (.t 38) (sR [fD 40 1 7,lD 41 1 40,oP 42 (.len (.t 41)),oP 43 (.bin .gtr (.t 42) (.c i0))] (.cond (.t 43) (.drw [0,1,0,4,12,28,28,127,255,511] [(0,fD 45 1 7),(1,lD 46 1 45),(2,mV 47 0),(3,oP 48 (.call 88 [.t 47])),(4,mV 44 48),(5,eX 49 44 0),(6,eX 50 44 1),(7,oP 51 (.iad 8 (.t 46) (.c i0))),(8,fD 52 4 51),(9,nP (.sto 2 (.t 52) (.t 50)))]) .skip)) .skip)))))))) (.seq (.drw [0,0,1,7] [(0,lA 53 2 7),(1,lA 54 4 6),(2,nP (.sto 2 (.t 2) (.t 53))),(3,nP (.sto 4 (.t 3) (.t 54)))]) .ret))))
theorem dg48:Dg Tryz.prog 48 Tryz.f48 ic48 [(.cell 2 2 true),(.cell 3 4 true)]:=⟨Tryz.func48,by kernel_rfl,by kernel_rfl⟩
set_option maxHeartbeats 1000000 in
theorem c48 (code:B) (p:Int) (hc:code.length≤2000) (hp:0≤p∧p≤200000000):FnP Tryz.prog G 48 1 [rdH code p] [.pv 0 0] (doorP code p):=by
  refine mP dg48 Tryz.ntmps48 ?_ ?_
  · obtain ⟨w1,hw1⟩:=world1
    have hp1:=PW.new hw1
    exact ⟨_,_,p,w1.door,w1,by omega,wi_drd hp1,wi_drw hp1.1 (by have:=newConvs_len (worldNew_is hw1).2.1;simp at this;omega),.inl ⟨rfl,rfl⟩⟩
  have fin:∀ l mm (p':Int) (m:List Pair) (fs:List Flw) (w:M.World) (n0:Nat),(p≤p'∧p'≤p+4300)→DrD ⟨m,fs⟩→DrW w→getL l 2=.pv 1002 0→getL l 3=.pv 1003 0→getH mm 0=.var 99 [.sl 1 (code.map byR),.int .i64 p'] →
      getH mm 1002=.var 26 [.own n0 m.length,.own 101005 fs.length]→getH mm 1003=.var 66 [.own 101003 w.convs.length,.own 101004 w.door.map.length,.own 101005 fs.length,.own 101006 w.nets.length]→n0≠0 →
      getH mm n0=.arr 82 3 (m.map Pair.row)→getH mm 101003=.arr 107 10 (w.convs.map Conv.row)→getH mm 101004=.arr 82 3 (w.door.map.map Pair.row)→getH mm 101005=.arr 46 8 (fs.map Flw.row)→getH mm 101006=.arr 30 7 (w.nets.map Pk.row) →
      retQ [.cell 2 2 true,.cell 3 4 true] 1 (doorP code p) .ret ⟨getL l,getH mm⟩:=fun l mm p' m fs w n0 h1 h2 h3 h4 h5 h6 h7 h8 h9 g1 g2 g3 g4 g5=>by
    refine retN (.tup [.agg [.sl 3 (m.map Pair.row),.sl 8 (fs.map Flw.row)],.agg [.sl 10 (w.convs.map Conv.row),.sl 3 (w.door.map.map Pair.row),.sl 8 (fs.map Flw.row),.sl 7 (w.nets.map Pk.row)]]) [rdH code p'] [] ?_ ⟨p',⟨m,fs⟩,⟨w.convs,⟨w.door.map,fs⟩,w.nets⟩,h1,h2,h3,.inl ⟨rfl,rfl⟩⟩ ?_ (by simp [argH,getN,rdH]) (by simp only [go_sem,rdH])
    · simp only [go_sem,rdH,h4,h5,h7,h8,g1,g2,g3,g4,g5];first|done|(simp [h9,Ne.symm h9];done)
    · simp only [go_sem,rdH,h6]
  simp only [ic48,go_sem,rdH]
  with_reducible repeat' (first|rw [i64w (by omega)];try simp only [go_sem]|refine br ?_ ?_<;>intro h e<;>(try simp only [e,go_sem])<;>clear e|refine sd ?_<;>try simp only [go_sem]|fail)
  refine callN (c86 code p hc (by omega)) [0] [] true 10 7 (by simp only [go_sem,rdH];first|done|simp) (by simp only [go_sem,rdH];first|done|simp) (by simp) (by simp) (by simp) ?_ ?_ ?_
  · rintro _ _ ⟨q',_,_,_,_,_,_,_,_,rfl⟩
    exact ⟨by simp,by simp,.inl rfl,fun i hi=>by obtain rfl:i=0:=(by omega);simp [chH,stepOk,rdH]⟩
  · intro i hi;rcases (show i=0∨i=1∨i=2∨i=3∨i=4∨i=5∨i=6 by omega) with rfl|rfl|rfl|rfl|rfl|rfl|rfl<;>simp only [go_sem]
  rintro _ _ ⟨q,cs,es,w,hq,_,_,⟨hw,hw1⟩,rfl,rfl⟩
  have hd:=wi_drd hw
  have hdw:=wi_drw hw.1 hw1
  have hf2:=hw.1.flows2
  simp only [go_sem,rdH]
  with_reducible repeat' (first|rw [i64w (by omega)];try simp only [go_sem]|refine br ?_ ?_<;>intro h e<;>(try simp only [e,go_sem])<;>clear e|refine sd ?_<;>try simp only [go_sem]|fail)
  refine pkN code q 24 17 hc fun x x1 x2=>?_
  simp only [go_sem,rdH]
  with_reducible repeat' (first|rw [i64w (by omega)];try simp only [go_sem]|refine br ?_ ?_<;>intro h e<;>(try simp only [e,go_sem])<;>clear e|refine sd ?_<;>try simp only [go_sem]|fail)
  · have:=0
    refine callN (o87 code (q+1) hc (by omega)) [0] [] true 21 2 (by simp only [go_sem,rdH];first|done|simp) (by simp only [go_sem,rdH];first|done|simp) (by simp) (by simp) (by simp) ?_ ?_ ?_
    · rintro _ _ ⟨q',_,_,_,rfl,rfl⟩
      exact ⟨by simp,by simp,.inl rfl,fun i hi=>by obtain rfl:i=0:=(by omega);simp [chH,stepOk,rdH]⟩
    · intro i hi;rcases (show i=0∨i=1 by omega) with rfl|rfl<;>simp only [go_sem]
    rintro _ _ ⟨q1,m,hq1,⟨hm1,hm2⟩,rfl,rfl⟩
    simp only [go_sem,rdH]
    with_reducible repeat' (first|rw [i64w (by omega)];try simp only [go_sem]|refine br ?_ ?_<;>intro h e<;>(try simp only [e,go_sem])<;>clear e|refine sd ?_<;>try simp only [go_sem]|fail)
    exact fin _ _ q1 m w.door.flows w 102101 (by omega) (drd_map hd hm2) hdw (by simp only [go_sem]) (by simp only [go_sem]) (by simp only [go_sem]) (by simp only [go_sem]) (by simp only [go_sem]) (by decide) (by simp only [go_sem]) (by simp only [go_sem]) (by simp only [go_sem]) (by simp only [go_sem]) (by simp only [go_sem])
  · have:=0
    obtain ⟨f,fl,hfl⟩:∃ f fl,w.door.flows=f :: fl:=by
      cases hs:w.door.flows with
      | nil =>
        have hh:w.door.flows.length=0:=by rw [hs];rfl
        omega
      | cons f fl=>exact ⟨f,fl,rfl⟩
    have hda:=drd_app hd (f:=f) (by rw [hfl];simp) hf2
    rw [hfl] at hda hf2
    simp only [List.length_cons] at hf2
    simp only [hfl,go_sem]
    with_reducible repeat' (first|rw [i64w (by omega)];try simp only [go_sem,hfl]|refine br ?_ ?_<;>intro h e<;>(try simp only [e,go_sem,hfl])<;>clear e|refine sd ?_<;>try simp only [go_sem,hfl]|fail)
    refine retN (.tup [.agg [.sl 3 (w.door.map.map Pair.row),.sl 8 ((f :: fl++[f]).map Flw.row)],.agg [.sl 10 (w.convs.map Conv.row),.sl 3 (w.door.map.map Pair.row),.own 1 (fl.length+1),.sl 7 (w.nets.map Pk.row)]]) [rdH code (q+1),.dead] [(1,101005)] ?_ ⟨q+1,⟨w.door.map,f :: fl++[f]⟩,w,by omega,hda,hdw,.inr ⟨fl.length+1,rfl,rfl⟩⟩ ?_ (by simp [argH,getN,rdH]) (by simp only [go_sem,rdH])
    · simp only [go_sem,rdH];first|done|(simp [Flw.row];done)
    · simp only [go_sem,rdH]
  · exact fin _ _ (q+1) w.door.map w.door.flows w 101004 (by omega) hd hdw (by simp only [go_sem]) (by simp only [go_sem]) (by simp only [go_sem]) (by simp only [go_sem]) (by simp only [go_sem]) (by decide) (by simp only [go_sem]) (by simp only [go_sem]) (by simp only [go_sem]) (by simp only [go_sem]) (by simp only [go_sem])
  · have:=0
    obtain ⟨f,fl,hfl⟩:∃ f fl,w.door.flows=f :: fl:=by
      cases hs:w.door.flows with
      | nil =>
        have hh:w.door.flows.length=0:=by rw [hs];rfl
        omega
      | cons f fl=>exact ⟨f,fl,rfl⟩
    refine callN (c88 code (q+1) hc (by omega)) [0] [] true 48 2 (by simp only [go_sem,rdH];first|done|simp) (by simp only [go_sem,rdH];first|done|simp) (by simp) (by simp) (by simp) ?_ ?_ ?_
    · rintro _ _ ⟨q',_,_,_,_,_,rfl,rfl⟩
      exact ⟨by simp,by simp,.inl rfl,fun i hi=>by obtain rfl:i=0:=(by omega);simp [chH,stepOk,rdH]⟩
    · intro i hi;rcases (show i=0∨i=1 by omega) with rfl|rfl<;>simp only [go_sem]
    rintro _ _ ⟨q1,m,s,hq1,hs,hso,rfl,rfl⟩
    have hds:=drd_set hd hfl hs hso
    simp only [hfl,go_sem,rdH]
    with_reducible repeat' (first|rw [i64w (by omega)];try simp only [go_sem,hfl]|refine br ?_ ?_<;>intro h e<;>(try simp only [e,go_sem,hfl])<;>clear e|refine sd ?_<;>try simp only [go_sem,hfl]|fail)
    exact fin _ _ q1 w.door.map (⟨f.ins,f.out,s,f.down⟩ :: fl) w 101004 (by omega) hds hdw (by simp only [go_sem]) (by simp only [go_sem]) (by simp only [go_sem]) (by simp only [go_sem]) (by simp only [go_sem]) (by decide) (by simp only [go_sem]) (by simp only [go_sem]) (by simp only [go_sem]) (by simp only [go_sem];first|done|simp [Flw.row]) (by simp only [go_sem])
  all_goals exact fin _ _ (q+1) w.door.map w.door.flows w 101004 (by omega) hd hdw (by simp only [go_sem]) (by simp only [go_sem]) (by simp only [go_sem]) (by simp only [go_sem]) (by simp only [go_sem]) (by decide) (by simp only [go_sem]) (by simp only [go_sem]) (by simp only [go_sem]) (by simp only [go_sem]) (by simp only [go_sem])
def drawD (r:V) (o:List Hs):Prop:=∃ (d:Door) (p:Pk),DrD d∧p.text.length≤50∧r=.tup [.agg [.sl 3 (d.map.map Pair.row),.sl 8 (d.flows.map Flw.row)],.agg (Pk.row p)]∧o=[]
def drawK (r:V) (o:List Hs):Prop:=∃ p:Pk,p.text.length≤50∧r=.agg (Pk.row p)∧o=[]
theorem drd_zero:DrD .zero:=⟨⟨by simp [Door.zero],by simp [Door.zero],fun f hf=>by cases hf⟩,by simp [Door.zero],fun f hf=>by cases hf⟩
def ic16:IC:=sR [oP 2 (.alloc 26 [.nils,.nils]),oP 3 (.alloc 30 [i0,i0,i0,i0,i0,i0,s0])] (sR [mV 7 0,oP 8 (.call 47 [.t 7]),mV 4 8] (sR [mV 10 4,oP 11 (.call 48 [.t 10]),mV 9 11,eX 12 9 0,eX 13 9 1,oP 5 (.alloc 26 [.nils,.nils]),oP 6 (.alloc 66 [.nils,.nils,.nils,.nils]),nP (.sto 2 (.t 5) (.t 12)),nP (.sto 4 (.t 6) (.t 13))] (.seq (.drw [0,0,0,6,15,31] [(0,lA 14 2 5),(1,mV 15 4),(2,lA 16 4 6),(3,oP 17 (.call 49 [.t 15,.t 16,.c (.bool true)])),(4,nP (.sto 2 (.t 2) (.t 14))),(5,nP (.sto 7 (.t 3) (.t 17)))]) .ret)))
theorem dg16:Dg Tryz.prog 16 Tryz.f16 ic16 [(.cell 2 2 true),(.cell 3 7 true)]:=⟨Tryz.func16,by kernel_rfl,by kernel_rfl⟩
theorem c16 (code:B) (hc:code.length≤2000000):FnP Tryz.prog G 16 0 [] [.sl 1 (code.map byR)] drawD:=by
  refine mP dg16 Tryz.ntmps16 ⟨_,_,.zero,.zero,drd_zero,by simp [Pk.zero],rfl,rfl⟩ ?_
  have hcl:(code.take 2000).length≤2000:=by simp;omega
  simp only [ic16,go_sem]
  refine callO (c47 code hc) [] 8 1 (by simp only [go_sem];first|done|simp) (by simp) (by rintro _ _ ⟨rfl,rfl⟩;simp) (by intro i hi;obtain rfl:i=0:=(by omega);simp only [go_sem]) ?_
  rintro _ _ ⟨rfl,rfl⟩
  generalize code.take 2000=cd at *
  simp only [go_sem,rdH]
  refine callN (c48 cd 0 hcl (by omega)) [100800] [] true 11 2 (by simp only [go_sem,rdH];first|done|simp) (by simp only [go_sem,rdH];first|done|simp) (by simp) (by simp) (by simp) ?_ ?_ ?_
  · rintro _ _ ⟨q',_,_,_,_,_,⟨_,rfl⟩|⟨_,_,rfl⟩⟩
    · exact ⟨by simp,by simp,.inl rfl,fun i hi=>by obtain rfl:i=0:=(by omega);simp [chH,stepOk,rdH]⟩
    · exact ⟨by simp,by simp,.inl rfl,fun i hi=>by obtain rfl:i=0:=(by omega);simp [chH,stepOk,rdH]⟩
  · intro i hi;rcases (show i=0∨i=1 by omega) with rfl|rfl<;>simp only [go_sem]
  rintro _ _ ⟨q,d,w,hq,hd,hw,⟨rfl,rfl⟩|⟨k,rfl,rfl⟩⟩
  · simp only [go_sem,rdH]
    with_reducible repeat' (first|rw [i64w (by omega)];try simp only [go_sem]|refine br ?_ ?_<;>intro h e<;>(try simp only [e,go_sem])<;>clear e|refine sd ?_<;>try simp only [go_sem]|fail)
    refine callN (c49 cd (q) w true hcl (by omega) hw.1 hw.2.1 hw.2.2) [100800] [] true 17 1 (by simp only [go_sem,rdH];first|done|simp) (by simp only [go_sem,rdH];first|done|simp) (by simp) (by simp) (by simp) ?_ ?_ ?_
    · rintro _ _ ⟨q',_,_,rfl,_⟩
      exact ⟨by simp,by simp,.inl rfl,fun i hi=>by obtain rfl:i=0:=(by omega);simp [chH,stepOk,rdH]⟩
    · intro i hi;obtain rfl:i=0:=(by omega);simp only [go_sem]
    rintro _ _ ⟨q',_,_,rfl,pk,hpk,rfl⟩
    simp only [go_sem,rdH]
    with_reducible repeat' (first|rw [i64w (by omega)];try simp only [go_sem]|refine br ?_ ?_<;>intro h e<;>(try simp only [e,go_sem])<;>clear e|refine sd ?_<;>try simp only [go_sem]|fail)
    refine retN (.tup [.agg [.sl 3 (d.map.map Pair.row),.sl 8 (d.flows.map Flw.row)],.agg (Pk.row pk)]) [] [] ?_ ⟨d,pk,hd,hpk,rfl,rfl⟩ (by simp only [go_sem]) (by simp [argH]) (by simp only [go_sem])
    simp only [go_sem]
  · simp only [go_sem,rdH]
    with_reducible repeat' (first|rw [i64w (by omega)];try simp only [go_sem]|refine br ?_ ?_<;>intro h e<;>(try simp only [e,go_sem])<;>clear e|refine sd ?_<;>try simp only [go_sem]|fail)
    refine callDd (d49 cd (q) w k true hcl (by omega) hw.1 hw.2.1 hw.2.2) [100800,101101] 17 1 (by simp only [go_sem,rdH];first|done|simp) (by simp only [go_sem,rdH];first|done|simp) (by simp) (by simp) (by intro i hi;obtain rfl:i=0:=(by omega);simp [chH,rdH,Hs.live]) ?_ ?_ ?_
    · rintro _ _ ⟨q',_,_,rfl,_⟩
      exact ⟨by simp,by simp,fun i hi=>by obtain rfl:i=0:=(by omega);simp [chH,stepOk,rdH]⟩
    · intro i hi;obtain rfl:i=0:=(by omega);simp only [go_sem]
    rintro _ _ ⟨q',_,_,rfl,pk,hpk,rfl⟩
    simp only [go_sem,rdH]
    with_reducible repeat' (first|rw [i64w (by omega)];try simp only [go_sem]|refine br ?_ ?_<;>intro h e<;>(try simp only [e,go_sem])<;>clear e|refine sd ?_<;>try simp only [go_sem]|fail)
    refine retN (.tup [.agg [.sl 3 (d.map.map Pair.row),.sl 8 (d.flows.map Flw.row)],.agg (Pk.row pk)]) [] [] ?_ ⟨d,pk,hd,hpk,rfl,rfl⟩ (by simp only [go_sem]) (by simp [argH]) (by simp only [go_sem])
    simp only [go_sem]
def ic21:IC:=sR [oP 2 (.alloc 26 [.nils,.nils]),oP 3 (.alloc 30 [i0,i0,i0,i0,i0,i0,s0])] (sR [mV 7 0,oP 8 (.call 47 [.t 7]),mV 4 8] (sR [mV 10 4,oP 11 (.call 48 [.t 10]),mV 9 11,eX 12 9 0,eX 13 9 1,oP 5 (.alloc 26 [.nils,.nils]),oP 6 (.alloc 66 [.nils,.nils,.nils,.nils]),nP (.sto 2 (.t 5) (.t 12)),nP (.sto 4 (.t 6) (.t 13))] (.seq (.drw [0,0,0,6,15,31] [(0,lA 14 2 5),(1,mV 15 4),(2,lA 16 4 6),(3,oP 17 (.call 49 [.t 15,.t 16,.c (.bool false)])),(4,nP (.sto 2 (.t 2) (.t 14))),(5,nP (.sto 7 (.t 3) (.t 17)))]) .ret)))
theorem dg21:Dg Tryz.prog 21 Tryz.f21 ic21 [(.cell 2 2 true),(.cell 3 7 true)]:=⟨Tryz.func21,by kernel_rfl,by kernel_rfl⟩
theorem c21 (code:B) (hc:code.length≤2000000):FnP Tryz.prog G 21 0 [] [.sl 1 (code.map byR)] drawD:=by
  refine mP dg21 Tryz.ntmps21 ⟨_,_,.zero,.zero,drd_zero,by simp [Pk.zero],rfl,rfl⟩ ?_
  have hcl:(code.take 2000).length≤2000:=by simp;omega
  simp only [ic21,go_sem]
  refine callO (c47 code hc) [] 8 1 (by simp only [go_sem];first|done|simp) (by simp) (by rintro _ _ ⟨rfl,rfl⟩;simp) (by intro i hi;obtain rfl:i=0:=(by omega);simp only [go_sem]) ?_
  rintro _ _ ⟨rfl,rfl⟩
  generalize code.take 2000=cd at *
  simp only [go_sem,rdH]
  refine callN (c48 cd 0 hcl (by omega)) [100800] [] true 11 2 (by simp only [go_sem,rdH];first|done|simp) (by simp only [go_sem,rdH];first|done|simp) (by simp) (by simp) (by simp) ?_ ?_ ?_
  · rintro _ _ ⟨q',_,_,_,_,_,⟨_,rfl⟩|⟨_,_,rfl⟩⟩
    · exact ⟨by simp,by simp,.inl rfl,fun i hi=>by obtain rfl:i=0:=(by omega);simp [chH,stepOk,rdH]⟩
    · exact ⟨by simp,by simp,.inl rfl,fun i hi=>by obtain rfl:i=0:=(by omega);simp [chH,stepOk,rdH]⟩
  · intro i hi;rcases (show i=0∨i=1 by omega) with rfl|rfl<;>simp only [go_sem]
  rintro _ _ ⟨q,d,w,hq,hd,hw,⟨rfl,rfl⟩|⟨k,rfl,rfl⟩⟩
  · simp only [go_sem,rdH]
    with_reducible repeat' (first|rw [i64w (by omega)];try simp only [go_sem]|refine br ?_ ?_<;>intro h e<;>(try simp only [e,go_sem])<;>clear e|refine sd ?_<;>try simp only [go_sem]|fail)
    refine callN (c49 cd (q) w false hcl (by omega) hw.1 hw.2.1 hw.2.2) [100800] [] true 17 1 (by simp only [go_sem,rdH];first|done|simp) (by simp only [go_sem,rdH];first|done|simp) (by simp) (by simp) (by simp) ?_ ?_ ?_
    · rintro _ _ ⟨q',_,_,rfl,_⟩
      exact ⟨by simp,by simp,.inl rfl,fun i hi=>by obtain rfl:i=0:=(by omega);simp [chH,stepOk,rdH]⟩
    · intro i hi;obtain rfl:i=0:=(by omega);simp only [go_sem]
    rintro _ _ ⟨q',_,_,rfl,pk,hpk,rfl⟩
    simp only [go_sem,rdH]
    with_reducible repeat' (first|rw [i64w (by omega)];try simp only [go_sem]|refine br ?_ ?_<;>intro h e<;>(try simp only [e,go_sem])<;>clear e|refine sd ?_<;>try simp only [go_sem]|fail)
    refine retN (.tup [.agg [.sl 3 (d.map.map Pair.row),.sl 8 (d.flows.map Flw.row)],.agg (Pk.row pk)]) [] [] ?_ ⟨d,pk,hd,hpk,rfl,rfl⟩ (by simp only [go_sem]) (by simp [argH]) (by simp only [go_sem])
    simp only [go_sem]
  · simp only [go_sem,rdH]
    with_reducible repeat' (first|rw [i64w (by omega)];try simp only [go_sem]|refine br ?_ ?_<;>intro h e<;>(try simp only [e,go_sem])<;>clear e|refine sd ?_<;>try simp only [go_sem]|fail)
    refine callDd (d49 cd (q) w k false hcl (by omega) hw.1 hw.2.1 hw.2.2) [100800,101101] 17 1 (by simp only [go_sem,rdH];first|done|simp) (by simp only [go_sem,rdH];first|done|simp) (by simp) (by simp) (by intro i hi;obtain rfl:i=0:=(by omega);simp [chH,rdH,Hs.live]) ?_ ?_ ?_
    · rintro _ _ ⟨q',_,_,rfl,_⟩
      exact ⟨by simp,by simp,fun i hi=>by obtain rfl:i=0:=(by omega);simp [chH,stepOk,rdH]⟩
    · intro i hi;obtain rfl:i=0:=(by omega);simp only [go_sem]
    rintro _ _ ⟨q',_,_,rfl,pk,hpk,rfl⟩
    simp only [go_sem,rdH]
    with_reducible repeat' (first|rw [i64w (by omega)];try simp only [go_sem]|refine br ?_ ?_<;>intro h e<;>(try simp only [e,go_sem])<;>clear e|refine sd ?_<;>try simp only [go_sem]|fail)
    refine retN (.tup [.agg [.sl 3 (d.map.map Pair.row),.sl 8 (d.flows.map Flw.row)],.agg (Pk.row pk)]) [] [] ?_ ⟨d,pk,hd,hpk,rfl,rfl⟩ (by simp only [go_sem]) (by simp [argH]) (by simp only [go_sem])
    simp only [go_sem]
def ic37:IC:=sR [oP 2 (.alloc 26 [.nils,.nils]),oP 3 (.alloc 30 [i0,i0,i0,i0,i0,i0,s0])] (sR [mV 7 0,oP 8 (.call 47 [.t 7]),mV 4 8] (sR [mV 10 4,oP 11 (.call 48 [.t 10]),mV 9 11,eX 12 9 0,eX 13 9 1,oP 5 (.alloc 26 [.nils,.nils]),oP 6 (.alloc 66 [.nils,.nils,.nils,.nils]),nP (.sto 2 (.t 5) (.t 12)),nP (.sto 4 (.t 6) (.t 13))] (.seq (.drw [0,0,0,0,8,24,62,127,255] [(0,lA 14 2 5),(1,mV 15 4),(2,lA 16 4 6),(3,mV 17 4),(4,oP 18 (.call 77 [.t 17,.c (.int .i64 2)])),(5,oP 19 (.bin .eql (.t 18) (.c i0))),(6,oP 20 (.call 49 [.t 15,.t 16,.t 19])),(7,nP (.sto 2 (.t 2) (.t 14))),(8,nP (.sto 7 (.t 3) (.t 20)))]) .ret)))
theorem dg37:Dg Tryz.prog 37 Tryz.f37 ic37 [(.cell 2 2 true),(.cell 3 7 true)]:=⟨Tryz.func37,by kernel_rfl,by kernel_rfl⟩
theorem c37 (code:B) (hc:code.length≤2000000):FnP Tryz.prog G 37 0 [] [.sl 1 (code.map byR)] drawD:=by
  refine mP dg37 Tryz.ntmps37 ⟨_,_,.zero,.zero,drd_zero,by simp [Pk.zero],rfl,rfl⟩ ?_
  have hcl:(code.take 2000).length≤2000:=by simp;omega
  simp only [ic37,go_sem]
  refine callO (c47 code hc) [] 8 1 (by simp only [go_sem];first|done|simp) (by simp) (by rintro _ _ ⟨rfl,rfl⟩;simp) (by intro i hi;obtain rfl:i=0:=(by omega);simp only [go_sem]) ?_
  rintro _ _ ⟨rfl,rfl⟩
  generalize code.take 2000=cd at *
  simp only [go_sem,rdH]
  refine callN (c48 cd 0 hcl (by omega)) [100800] [] true 11 2 (by simp only [go_sem,rdH];first|done|simp) (by simp only [go_sem,rdH];first|done|simp) (by simp) (by simp) (by simp) ?_ ?_ ?_
  · rintro _ _ ⟨q',_,_,_,_,_,⟨_,rfl⟩|⟨_,_,rfl⟩⟩
    · exact ⟨by simp,by simp,.inl rfl,fun i hi=>by obtain rfl:i=0:=(by omega);simp [chH,stepOk,rdH]⟩
    · exact ⟨by simp,by simp,.inl rfl,fun i hi=>by obtain rfl:i=0:=(by omega);simp [chH,stepOk,rdH]⟩
  · intro i hi;rcases (show i=0∨i=1 by omega) with rfl|rfl<;>simp only [go_sem]
  rintro _ _ ⟨q,d,w,hq,hd,hw,⟨rfl,rfl⟩|⟨k,rfl,rfl⟩⟩
  · simp only [go_sem,rdH]
    with_reducible repeat' (first|rw [i64w (by omega)];try simp only [go_sem]|refine br ?_ ?_<;>intro h e<;>(try simp only [e,go_sem])<;>clear e|refine sd ?_<;>try simp only [go_sem]|fail)
    refine callN (c77 cd (q) 2 hcl (by omega) (by omega)) [100800] [] true 18 1 (by simp only [go_sem,rdH];first|done|simp) (by simp only [go_sem,rdH];first|done|simp) (by simp) (by simp) (by simp) ?_ ?_ ?_
    · rintro _ _ ⟨k,_,_,rfl,rfl⟩;exact ⟨by simp,by simp,.inl rfl,fun i hi=>by obtain rfl:i=0:=(by omega);simp [chH,stepOk,rdH]⟩
    · intro i hi;obtain rfl:i=0:=(by omega);simp only [go_sem]
    rintro _ _ ⟨x,x1,x2,rfl,rfl⟩
    simp only [go_sem,rdH]
    with_reducible repeat' (first|rw [i64w (by omega)];try simp only [go_sem]|refine br ?_ ?_<;>intro h e<;>(try simp only [e,go_sem])<;>clear e|refine sd ?_<;>try simp only [go_sem]|fail)
    refine callN (c49 cd (q+1) w (decide (x=0)) hcl (by omega) hw.1 hw.2.1 hw.2.2) [100800] [] true 20 1 (by simp only [go_sem,rdH];first|done|simp) (by simp only [go_sem,rdH];first|done|simp) (by simp) (by simp) (by simp) ?_ ?_ ?_
    · rintro _ _ ⟨q',_,_,rfl,_⟩
      exact ⟨by simp,by simp,.inl rfl,fun i hi=>by obtain rfl:i=0:=(by omega);simp [chH,stepOk,rdH]⟩
    · intro i hi;obtain rfl:i=0:=(by omega);simp only [go_sem]
    rintro _ _ ⟨q',_,_,rfl,pk,hpk,rfl⟩
    simp only [go_sem,rdH]
    with_reducible repeat' (first|rw [i64w (by omega)];try simp only [go_sem]|refine br ?_ ?_<;>intro h e<;>(try simp only [e,go_sem])<;>clear e|refine sd ?_<;>try simp only [go_sem]|fail)
    refine retN (.tup [.agg [.sl 3 (d.map.map Pair.row),.sl 8 (d.flows.map Flw.row)],.agg (Pk.row pk)]) [] [] ?_ ⟨d,pk,hd,hpk,rfl,rfl⟩ (by simp only [go_sem]) (by simp [argH]) (by simp only [go_sem])
    simp only [go_sem]
  · simp only [go_sem,rdH]
    with_reducible repeat' (first|rw [i64w (by omega)];try simp only [go_sem]|refine br ?_ ?_<;>intro h e<;>(try simp only [e,go_sem])<;>clear e|refine sd ?_<;>try simp only [go_sem]|fail)
    refine callN (c77 cd (q) 2 hcl (by omega) (by omega)) [100800] [] true 18 1 (by simp only [go_sem,rdH];first|done|simp) (by simp only [go_sem,rdH];first|done|simp) (by simp) (by simp) (by simp) ?_ ?_ ?_
    · rintro _ _ ⟨k,_,_,rfl,rfl⟩;exact ⟨by simp,by simp,.inl rfl,fun i hi=>by obtain rfl:i=0:=(by omega);simp [chH,stepOk,rdH]⟩
    · intro i hi;obtain rfl:i=0:=(by omega);simp only [go_sem]
    rintro _ _ ⟨x,x1,x2,rfl,rfl⟩
    simp only [go_sem,rdH]
    with_reducible repeat' (first|rw [i64w (by omega)];try simp only [go_sem]|refine br ?_ ?_<;>intro h e<;>(try simp only [e,go_sem])<;>clear e|refine sd ?_<;>try simp only [go_sem]|fail)
    refine callDd (d49 cd (q+1) w k (decide (x=0)) hcl (by omega) hw.1 hw.2.1 hw.2.2) [100800,101101] 20 1 (by simp only [go_sem,rdH];first|done|simp) (by simp only [go_sem,rdH];first|done|simp) (by simp) (by simp) (by intro i hi;obtain rfl:i=0:=(by omega);simp [chH,rdH,Hs.live]) ?_ ?_ ?_
    · rintro _ _ ⟨q',_,_,rfl,_⟩
      exact ⟨by simp,by simp,fun i hi=>by obtain rfl:i=0:=(by omega);simp [chH,stepOk,rdH]⟩
    · intro i hi;obtain rfl:i=0:=(by omega);simp only [go_sem]
    rintro _ _ ⟨q',_,_,rfl,pk,hpk,rfl⟩
    simp only [go_sem,rdH]
    with_reducible repeat' (first|rw [i64w (by omega)];try simp only [go_sem]|refine br ?_ ?_<;>intro h e<;>(try simp only [e,go_sem])<;>clear e|refine sd ?_<;>try simp only [go_sem]|fail)
    refine retN (.tup [.agg [.sl 3 (d.map.map Pair.row),.sl 8 (d.flows.map Flw.row)],.agg (Pk.row pk)]) [] [] ?_ ⟨d,pk,hd,hpk,rfl,rfl⟩ (by simp only [go_sem]) (by simp [argH]) (by simp only [go_sem])
    simp only [go_sem]
def ic42:IC:=sR [oP 2 (.alloc 30 [i0,i0,i0,i0,i0,i0,s0])] (sR [mV 5 0,oP 6 (.call 47 [.t 5]),mV 3 6] (sR [mV 7 3,oP 8 (.call 82 [.t 7]),oP 4 (.alloc 30 [i0,i0,i0,i0,i0,i0,s0]),nP (.sto 7 (.t 4) (.t 8))] (.seq (sR [mV 9 3,oP 10 (.call 77 [.t 9,.c (.int .i64 4)]),oP 11 (.bin .eql (.t 10) (.c i0))] (.cond (.t 11) (.reg [mV 12 3,oP 13 (.call 77 [.t 12,.c (.int .i64 2)]),oP 14 (.bin .add (.c (.int .i64 1)) (.t 13)),fD 15 0 4,nP (.sto 1 (.t 15) (.t 14))]) .skip)) (sR [lA 16 7 4,nP (.sto 7 (.t 2) (.t 16))] .ret))))
theorem dg42:Dg Tryz.prog 42 Tryz.f42 ic42 [(.cell 2 7 true)]:=⟨Tryz.func42,by kernel_rfl,by kernel_rfl⟩
theorem c42 (code:B) (hc:code.length≤2000000):FnP Tryz.prog G 42 0 [] [.sl 1 (code.map byR)] drawK:=by
  refine mP dg42 Tryz.ntmps42 ⟨_,_,.zero,by simp [Pk.zero],rfl,rfl⟩ ?_
  have hcl:(code.take 2000).length≤2000:=by simp;omega
  simp only [ic42,go_sem]
  with_reducible repeat' (first|rw [i64w (by omega)];try simp only [go_sem]|refine br ?_ ?_<;>intro h e<;>(try simp only [e,go_sem])<;>clear e|refine sd ?_<;>try simp only [go_sem]|fail)
  refine callO (c47 code hc) [] 6 1 (by simp only [go_sem];first|done|simp) (by simp) (by rintro _ _ ⟨rfl,rfl⟩;simp) (by intro i hi;obtain rfl:i=0:=(by omega);simp only [go_sem]) ?_
  rintro _ _ ⟨rfl,rfl⟩
  generalize code.take 2000=cd at *
  simp only [go_sem,rdH]
  refine callN (c82 cd 0 hcl (by omega)) [100600] [] true 8 1 (by simp only [go_sem,rdH];first|done|simp) (by simp only [go_sem,rdH];first|done|simp) (by simp) (by simp) (by simp) ?_ ?_ ?_
  · rintro _ _ ⟨q',_,_,rfl,_⟩
    exact ⟨by simp,by simp,.inl rfl,fun i hi=>by obtain rfl:i=0:=(by omega);simp [chH,stepOk,rdH]⟩
  · intro i hi;obtain rfl:i=0:=(by omega);simp only [go_sem]
  rintro _ _ ⟨q,q1,q2,rfl,pk,hpk,rfl⟩
  simp only [go_sem,rdH]
  with_reducible repeat' (first|rw [i64w (by omega)];try simp only [go_sem]|refine br ?_ ?_<;>intro h e<;>(try simp only [e,go_sem])<;>clear e|refine sd ?_<;>try simp only [go_sem]|fail)
  refine callN (c77 cd (q) 4 hcl (by omega) (by omega)) [100600] [] true 10 1 (by simp only [go_sem,rdH];first|done|simp) (by simp only [go_sem,rdH];first|done|simp) (by simp) (by simp) (by simp) ?_ ?_ ?_
  · rintro _ _ ⟨k,_,_,rfl,rfl⟩;exact ⟨by simp,by simp,.inl rfl,fun i hi=>by obtain rfl:i=0:=(by omega);simp [chH,stepOk,rdH]⟩
  · intro i hi;obtain rfl:i=0:=(by omega);simp only [go_sem]
  rintro _ _ ⟨x,x1,x2,rfl,rfl⟩
  simp only [go_sem,rdH]
  with_reducible repeat' (first|rw [i64w (by omega)];try simp only [go_sem]|refine br ?_ ?_<;>intro h e<;>(try simp only [e,go_sem])<;>clear e|refine sd ?_<;>try simp only [go_sem]|fail)
  · have:=0
    refine callN (c77 cd (q+1) 2 hcl (by omega) (by omega)) [100600] [] true 13 1 (by simp only [go_sem,rdH];first|done|simp) (by simp only [go_sem,rdH];first|done|simp) (by simp) (by simp) (by simp) ?_ ?_ ?_
    · rintro _ _ ⟨k,_,_,rfl,rfl⟩;exact ⟨by simp,by simp,.inl rfl,fun i hi=>by obtain rfl:i=0:=(by omega);simp [chH,stepOk,rdH]⟩
    · intro i hi;obtain rfl:i=0:=(by omega);simp only [go_sem]
    rintro _ _ ⟨y,y1,y2,rfl,rfl⟩
    simp only [go_sem,rdH]
    with_reducible repeat' (first|rw [i64w (by omega)];try simp only [go_sem]|refine br ?_ ?_<;>intro h e<;>(try simp only [e,go_sem])<;>clear e|refine sd ?_<;>try simp only [go_sem]|fail)
    refine retN (.agg (Pk.row ⟨1+y,pk.frm,pk.to,pk.at_,pk.text⟩)) [] [] ?_ ⟨⟨1+y,pk.frm,pk.to,pk.at_,pk.text⟩,hpk,rfl,rfl⟩ (by simp only [go_sem]) (by simp [argH]) (by simp only [go_sem])
    simp only [go_sem]
  · refine retN (.agg (Pk.row pk)) [] [] ?_ ⟨pk,hpk,rfl,rfl⟩ (by simp only [go_sem]) (by simp [argH]) (by simp only [go_sem])
    simp only [go_sem]
def ic102:IC:=sR [oP 6 (.box 30 (.t 2)),oP 8 (.alloc 30 [i0,i0,i0,i0,i0,i0,s0]),oP 9 (.mv (.c (.bool false)))] (sR [mV 17 1,oP 18 (.nilc (.t 17)),fD 19 0 18,lD 20 1 19,oP 21 (.lens (.t 20)),mV 10 21] (.seq (.drw [0,1,3,0,8,24,56,0,128,0,512,0,4095,8191,16383,16383,16383,0,163839,458751,1048575] [(0,mV 23 1),(1,oP 24 (.nilc (.t 23))),(2,lA 25 2 24),(3,mV 26 0),(4,oP 27 (.nilc (.t 26))),(5,fD 28 0 27),(6,lD 29 1 28),(7,fD 30 5 6),(8,lD 31 1 30),(9,fD 32 6 6),(10,lD 33 1 32),(11,mV 34 3),(12,oP 35 (.call 130 [.t 25,.t 29,.t 31,.t 33,.t 34])),(13,mV 22 35),(14,eX 36 22 0),(15,eX 37 22 1),(16,eX 38 22 2),(17,oP 12 (.alloc 44 [s0,.nils])),(18,mV 11 36),(19,nP (.sto 2 (.t 12) (.t 37))),(20,mV 13 38)]) (.seq (sR [mV 39 13,oP 40 (.un .not (.t 39))] (.cond (.t 40) (sR [oP 41 (.build [i0,i0,i0,i0,i0,i0,s0] []),nP (.sto 7 (.t 8) (.t 41)),oP 9 (.mv (.c (.bool false)))] .ret) .skip)) (.seq (.drw [0,0,0,4,0,13,45,109,255,511] [(0,mV 42 0),(1,mV 43 1),(2,mV 44 11),(3,oP 45 (.call 99 [.t 44])),(4,lA 46 2 12),(5,oP 47 (.nilc (.t 42))),(6,fD 48 0 47),(7,nP (.sto 1 (.t 48) (.t 45))),(8,oP 49 (.nilc (.t 43))),(9,nP (.sto 2 (.t 49) (.t 46)))]) (sR [mV 50 1,oP 51 (.nilc (.t 50)),lA 52 2 51,oP 53 (.call 75 [.t 52]),mV 14 53] (.seq (.drw [0,1,3,0,8,31,0,64,63,511] [(0,mV 54 1),(1,oP 55 (.nilc (.t 54))),(2,lA 56 2 55),(3,fD 57 5 6),(4,lD 58 1 57),(5,oP 59 (.call 85 [.t 56,.t 58])),(6,mV 60 14),(7,oP 61 (.lens (.t 60))),(8,mV 15 59),(9,mV 16 61)]) (.seq (sR [mV 62 1,oP 63 (.nilc (.t 62)),fD 64 0 63,lD 65 1 64,oP 66 (.lens (.t 65)),mV 67 10,bN 68 .eql 66 67] (.cond (.t 68) (.drw [0,1,3,0,8,0,32,96,248,0,1016,2047,4095] [(0,mV 69 1),(1,oP 70 (.nilc (.t 69))),(2,lA 71 2 70),(3,fD 72 5 6),(4,lD 73 1 72),(5,fD 74 6 6),(6,lD 75 1 74),(7,oP 76 (.lens (.t 75))),(8,bN 77 .add 73 76),(9,mV 78 10),(10,oP 79 (.mn (.t 77) (.t 78))),(11,oP 80 (.call 85 [.t 71,.t 79])),(12,mV 16 80)]) .skip)) (.seq (.drw [0,0,0,0,0,24,62,1,129,511,1023] [(0,mV 81 15),(1,mV 82 14),(2,mV 83 15),(3,mV 84 16),(4,mV 85 15),(5,oP 86 (.mx (.t 84) (.t 85))),(6,oP 87 (.sls (.t 82) (some (.t 83)) (some (.t 86)))),(7,fD 88 5 6),(8,nP (.sto 1 (.t 88) (.t 81))),(9,fD 89 6 6),(10,nP (.sto 1 (.t 89) (.t 87)))]) (.seq (.drw [0,0,2,6,14,31,63] [(0,lA 90 7 6),(1,fD 91 6 6),(2,lD 92 1 91),(3,oP 93 (.lens (.t 92))),(4,oP 94 (.call 73 [.t 93,.c (.int .i64 1),.c (.int .i64 40)])),(5,nP (.sto 7 (.t 8) (.t 90))),(6,mV 9 94)]) .ret)))))))))
theorem dg102:Dg Tryz.prog 102 Tryz.f102 ic102 [(.cell 8 7 true),(.t 9)]:=⟨Tryz.func102,by kernel_rfl,by kernel_rfl⟩
def goesA_up (m:List Pair) (fs:List Flw) (k:Nat) (p:Pk) (out:Bool) (r:V) (o:List Hs):Prop :=
  ((put m (fs.getD k default).up p.at_ p.text out).2.2=false∧r=.tup [.agg (Pk.row .zero),.bool false]∧o=[.var 26 [.sl 3 (m.map Pair.row),.own 1 fs.length],.arr 46 8 (fs.map Flw.row)]) ∨
  ((put m (fs.getD k default).up p.at_ p.text out).2.2=true∧r=.tup [.agg (Pk.row (goesR (fs.getD k default).up (put m (fs.getD k default).up p.at_ p.text out).2.1 p).1),.bool (goesR (fs.getD k default).up (put m (fs.getD k default).up p.at_ p.text out).2.1 p).2] ∧
    o=[.var 26 [.sl 3 ((put m (fs.getD k default).up p.at_ p.text out).1.map Pair.row),.own 1 fs.length],.arr 46 8 ((fs.set k { fs.getD k default with up:=(put m (fs.getD k default).up p.at_ p.text out).2.1 }).map Flw.row)])
theorem goesA_no_up {m:List Pair} {fs:List Flw} {k:Nat} {p:Pk} {out:Bool} {f:Flw} {m':List Pair} {s':Strm} (hf:fs.getD k default=f) (hP:put m f.up p.at_ p.text out=(m',s',false)) :
    goesA_up m fs k p out (.tup [.agg (Pk.row .zero),.bool false]) [.var 26 [.sl 3 (m.map Pair.row),.own 1 fs.length],.arr 46 8 (fs.map Flw.row)]:=by
  unfold goesA_up
  rw [hf,hP]
  exact Or.inl ⟨rfl,rfl,rfl⟩
theorem goesA_yes_up {m:List Pair} {fs:List Flw} {k:Nat} {p:Pk} {out:Bool} {f:Flw} {m':List Pair} {s':Strm} (hf:fs.getD k default=f) (hP:put m f.up p.at_ p.text out=(m',s',true)) :
    goesA_up m fs k p out (.tup [.agg (Pk.row (goesR f.up s' p).1),.bool (goesR f.up s' p).2]) [.var 26 [.sl 3 (m'.map Pair.row),.own 1 fs.length],.arr 46 8 ((fs.set k { f with up:=s' }).map Flw.row)]:=by
  unfold goesA_up
  rw [hf,hP]
  exact Or.inr ⟨rfl,rfl,rfl⟩
theorem c102up (m:List Pair) (fs:List Flw) (k:Nat) (p:Pk) (out:Bool) (hm:mapOk m=true) (hk:k<fs.length) (hs:strmOk (fs.getD k default).up=true) (hp:PkP p) (htx:txOk p.text=true) :
    FnP Tryz.prog G 102 2 [.var 26 [.sl 3 (m.map Pair.row),.own 1 fs.length],.arr 46 8 (fs.map Flw.row)] [.pv 0 0,.pa 1 k 4,.agg [.int .i64 p.kind,.int .i64 p.frm.a,.int .i64 p.frm.p,.int .i64 p.to.a,.int .i64 p.to.p,.int .i64 p.at_,.str p.text],.bool out] (goesA_up m fs k p out):=by
  refine mP dg102 Tryz.ntmps102 ?_ ?_
  · cases hb:(put m (fs.getD k default).up p.at_ p.text out).2.2
    · exact ⟨_,_,.inl ⟨hb,rfl,rfl⟩⟩
    · exact ⟨_,_,.inr ⟨hb,rfl,rfl⟩⟩
  have hpa:=hp.at_
  have hpl:=hp.len
  have hpk:=put_ok (m:=m) (s:=(fs.getD k default).up) (n:=p.at_) (t:=p.text) (out:=out) hm hs htx hpa.1
  have sb:=strmOk_B hs
  obtain ⟨s1,s2,s3⟩:=sb
  have f0:=c130 m (fs.getD k default).up p.at_ p.text out ⟨hm,hs,hpa,hpl⟩
  have gs:∀ R,((fs.map Flw.row).set k R).getD k []=R:=fun R=>by simp [List.getD,hk]
  generalize hf:fs.getD k default=f at *
  simp only [ic102,go_sem,getD_mp hk,hf]
  with_reducible repeat' (first|refine br ?_ ?_<;>intro h e<;>(try simp only [e,go_sem,getD_mp hk,hf])<;>clear e|rw [i64w (by omega)]|refine sd ?_<;>try simp only [go_sem,getD_mp hk,hf]|fail)
  refine callR f0 rfl rfl ?_
  have hml:=(mapOk_ports hpk.1).2
  have sb:=strmOk_B hpk.2
  have so:=sOut_len sb
  have gr:∀ a b,forP (put m f.up p.at_ p.text out).2.1.parts p.at_=a→toR f.up (put m f.up p.at_ p.text out).2.1 p=b→goesR f.up (put m f.up p.at_ p.text out).2.1 p=({ p with at_:=a,text:=((sOut (put m f.up p.at_ p.text out).2.1).take (max b a).toNat).drop a.toNat },within (((sOut (put m f.up p.at_ p.text out).2.1).take (max b a).toNat).drop a.toNat).length 1 40):=fun a b ha hb=>by subst ha;subst hb;rfl
  have hto:toR f.up (put m f.up p.at_ p.text out).2.1 p=if f.up.inn.length<(put m f.up p.at_ p.text out).2.1.inn.length then ((sOut (put m f.up p.at_ p.text out).2.1).length:Int) else forP (put m f.up p.at_ p.text out).2.1.parts (min (p.at_+p.text.length) (put m f.up p.at_ p.text out).2.1.inn.length):=rfl
  have fo1:0≤forP (put m f.up p.at_ p.text out).2.1.parts p.at_∧forP (put m f.up p.at_ p.text out).2.1.parts p.at_≤(sOut (put m f.up p.at_ p.text out).2.1).length:=forP_le _
  have fo2:0≤forP (put m f.up p.at_ p.text out).2.1.parts (min (p.at_+p.text.length) f.up.inn.length)∧forP (put m f.up p.at_ p.text out).2.1.parts (min (p.at_+p.text.length) f.up.inn.length)≤(sOut (put m f.up p.at_ p.text out).2.1).length:=forP_le _
  have hinn:f.up.inn.length≤(put m f.up p.at_ p.text out).2.1.inn.length:=put_inn ..
  generalize hP:put m f.up p.at_ p.text out=P at *
  obtain ⟨m',s',ok⟩:=P
  simp only at hpk hml sb so gr hto fo1 fo2 hinn
  cases ok<;>simp only [go_sem]
  · with_reducible repeat' (first|refine br ?_ ?_<;>intro h e<;>(try simp only [e,go_sem])<;>clear e|rw [i64w (by omega)]|refine sd ?_<;>try simp only [go_sem]|fail)
    refine retN (.tup [.agg (Pk.row .zero),.bool false]) [.var 26 [.sl 3 (m.map Pair.row),.own 1 fs.length],.arr 46 8 (fs.map Flw.row)] [] ?_ (goesA_no_up hf hP) ?_ (by simp [argH,getN]) (by simp only [go_sem])
    · simp only [go_sem,Pk.zero,E.zero]
    · simp only [go_sem]
  have f1:=r99 (m'.map Pair.row) (by simp;omega)
  have f2:=c75 s' sb
  have f3:=c85 s' p.at_ sb (by omega)
  have f4:=c85 s' (min (p.at_+p.text.length) f.up.inn.length) sb (by omega)
  generalize hA:forP s'.parts p.at_=A at *
  generalize hB:forP s'.parts (min (p.at_+p.text.length) f.up.inn.length)=Bb at *
  with_reducible repeat' (first|refine br ?_ ?_<;>intro h e<;>(try simp only [e,go_sem,getD_mp hk,hf,gs])<;>clear e|rw [i64w (by omega)]|refine sd ?_<;>try simp only [go_sem,getD_mp hk,hf,gs]|(first|refine cr (f1 ..) ?_|refine cr (f2 ..) ?_|refine cr (f3 ..) ?_|refine cr (f4 ..) ?_|refine cr (c73 ..) ?_)<;>try simp only [go_sem,getD_mp hk,hf,gs]|fail)
  · have hto':toR f.up s' p=Bb:=by rw [hto,if_neg (by omega),← hB];congr 2
    have g:=gr A _ rfl hto'
    refine retN (.tup [.agg (Pk.row (goesR f.up s' p).1),.bool (goesR f.up s' p).2]) [.var 26 [.sl 3 (m'.map Pair.row),.own 1 fs.length],.arr 46 8 ((fs.set k { f with up:=s' }).map Flw.row)] [] ?_ (goesA_yes_up hf hP) ?_ (by simp [argH,getN]) (by simp only [go_sem])
    · simp only [g,go_sem]
    · simp only [go_sem,List.map_set]
  · have hto':toR f.up s' p=((sOut s').length:Int):=by rw [hto,if_pos (by omega)]
    have g:=gr A _ rfl hto'
    refine retN (.tup [.agg (Pk.row (goesR f.up s' p).1),.bool (goesR f.up s' p).2]) [.var 26 [.sl 3 (m'.map Pair.row),.own 1 fs.length],.arr 46 8 ((fs.set k { f with up:=s' }).map Flw.row)] [] ?_ (goesA_yes_up hf hP) ?_ (by simp [argH,getN]) (by simp only [go_sem])
    · simp only [g,go_sem]
    · simp only [go_sem,List.map_set]
def goesA_down (m:List Pair) (fs:List Flw) (k:Nat) (p:Pk) (out:Bool) (r:V) (o:List Hs):Prop :=
  ((put m (fs.getD k default).down p.at_ p.text out).2.2=false∧r=.tup [.agg (Pk.row .zero),.bool false]∧o=[.var 26 [.sl 3 (m.map Pair.row),.own 1 fs.length],.arr 46 8 (fs.map Flw.row)]) ∨
  ((put m (fs.getD k default).down p.at_ p.text out).2.2=true∧r=.tup [.agg (Pk.row (goesR (fs.getD k default).down (put m (fs.getD k default).down p.at_ p.text out).2.1 p).1),.bool (goesR (fs.getD k default).down (put m (fs.getD k default).down p.at_ p.text out).2.1 p).2] ∧
    o=[.var 26 [.sl 3 ((put m (fs.getD k default).down p.at_ p.text out).1.map Pair.row),.own 1 fs.length],.arr 46 8 ((fs.set k { fs.getD k default with down:=(put m (fs.getD k default).down p.at_ p.text out).2.1 }).map Flw.row)])
theorem goesA_no_down {m:List Pair} {fs:List Flw} {k:Nat} {p:Pk} {out:Bool} {f:Flw} {m':List Pair} {s':Strm} (hf:fs.getD k default=f) (hP:put m f.down p.at_ p.text out=(m',s',false)) :
    goesA_down m fs k p out (.tup [.agg (Pk.row .zero),.bool false]) [.var 26 [.sl 3 (m.map Pair.row),.own 1 fs.length],.arr 46 8 (fs.map Flw.row)]:=by
  unfold goesA_down
  rw [hf,hP]
  exact Or.inl ⟨rfl,rfl,rfl⟩
theorem goesA_yes_down {m:List Pair} {fs:List Flw} {k:Nat} {p:Pk} {out:Bool} {f:Flw} {m':List Pair} {s':Strm} (hf:fs.getD k default=f) (hP:put m f.down p.at_ p.text out=(m',s',true)) :
    goesA_down m fs k p out (.tup [.agg (Pk.row (goesR f.down s' p).1),.bool (goesR f.down s' p).2]) [.var 26 [.sl 3 (m'.map Pair.row),.own 1 fs.length],.arr 46 8 ((fs.set k { f with down:=s' }).map Flw.row)]:=by
  unfold goesA_down
  rw [hf,hP]
  exact Or.inr ⟨rfl,rfl,rfl⟩
theorem c102down (m:List Pair) (fs:List Flw) (k:Nat) (p:Pk) (out:Bool) (hm:mapOk m=true) (hk:k<fs.length) (hs:strmOk (fs.getD k default).down=true) (hp:PkP p) (htx:txOk p.text=true) :
    FnP Tryz.prog G 102 2 [.var 26 [.sl 3 (m.map Pair.row),.own 1 fs.length],.arr 46 8 (fs.map Flw.row)] [.pv 0 0,.pa 1 k 6,.agg [.int .i64 p.kind,.int .i64 p.frm.a,.int .i64 p.frm.p,.int .i64 p.to.a,.int .i64 p.to.p,.int .i64 p.at_,.str p.text],.bool out] (goesA_down m fs k p out):=by
  refine mP dg102 Tryz.ntmps102 ?_ ?_
  · cases hb:(put m (fs.getD k default).down p.at_ p.text out).2.2
    · exact ⟨_,_,.inl ⟨hb,rfl,rfl⟩⟩
    · exact ⟨_,_,.inr ⟨hb,rfl,rfl⟩⟩
  have hpa:=hp.at_
  have hpl:=hp.len
  have hpk:=put_ok (m:=m) (s:=(fs.getD k default).down) (n:=p.at_) (t:=p.text) (out:=out) hm hs htx hpa.1
  have sb:=strmOk_B hs
  obtain ⟨s1,s2,s3⟩:=sb
  have f0:=c130 m (fs.getD k default).down p.at_ p.text out ⟨hm,hs,hpa,hpl⟩
  have gs:∀ R,((fs.map Flw.row).set k R).getD k []=R:=fun R=>by simp [List.getD,hk]
  generalize hf:fs.getD k default=f at *
  simp only [ic102,go_sem,getD_mp hk,hf]
  with_reducible repeat' (first|refine br ?_ ?_<;>intro h e<;>(try simp only [e,go_sem,getD_mp hk,hf])<;>clear e|rw [i64w (by omega)]|refine sd ?_<;>try simp only [go_sem,getD_mp hk,hf]|fail)
  refine callR f0 rfl rfl ?_
  have hml:=(mapOk_ports hpk.1).2
  have sb:=strmOk_B hpk.2
  have so:=sOut_len sb
  have gr:∀ a b,forP (put m f.down p.at_ p.text out).2.1.parts p.at_=a→toR f.down (put m f.down p.at_ p.text out).2.1 p=b→goesR f.down (put m f.down p.at_ p.text out).2.1 p=({ p with at_:=a,text:=((sOut (put m f.down p.at_ p.text out).2.1).take (max b a).toNat).drop a.toNat },within (((sOut (put m f.down p.at_ p.text out).2.1).take (max b a).toNat).drop a.toNat).length 1 40):=fun a b ha hb=>by subst ha;subst hb;rfl
  have hto:toR f.down (put m f.down p.at_ p.text out).2.1 p=if f.down.inn.length<(put m f.down p.at_ p.text out).2.1.inn.length then ((sOut (put m f.down p.at_ p.text out).2.1).length:Int) else forP (put m f.down p.at_ p.text out).2.1.parts (min (p.at_+p.text.length) (put m f.down p.at_ p.text out).2.1.inn.length):=rfl
  have fo1:0≤forP (put m f.down p.at_ p.text out).2.1.parts p.at_∧forP (put m f.down p.at_ p.text out).2.1.parts p.at_≤(sOut (put m f.down p.at_ p.text out).2.1).length:=forP_le _
  have fo2:0≤forP (put m f.down p.at_ p.text out).2.1.parts (min (p.at_+p.text.length) f.down.inn.length)∧forP (put m f.down p.at_ p.text out).2.1.parts (min (p.at_+p.text.length) f.down.inn.length)≤(sOut (put m f.down p.at_ p.text out).2.1).length:=forP_le _
  have hinn:f.down.inn.length≤(put m f.down p.at_ p.text out).2.1.inn.length:=put_inn ..
  generalize hP:put m f.down p.at_ p.text out=P at *
  obtain ⟨m',s',ok⟩:=P
  simp only at hpk hml sb so gr hto fo1 fo2 hinn
  cases ok<;>simp only [go_sem]
  · with_reducible repeat' (first|refine br ?_ ?_<;>intro h e<;>(try simp only [e,go_sem])<;>clear e|rw [i64w (by omega)]|refine sd ?_<;>try simp only [go_sem]|fail)
    refine retN (.tup [.agg (Pk.row .zero),.bool false]) [.var 26 [.sl 3 (m.map Pair.row),.own 1 fs.length],.arr 46 8 (fs.map Flw.row)] [] ?_ (goesA_no_down hf hP) ?_ (by simp [argH,getN]) (by simp only [go_sem])
    · simp only [go_sem,Pk.zero,E.zero]
    · simp only [go_sem]
  have f1:=r99 (m'.map Pair.row) (by simp;omega)
  have f2:=c75 s' sb
  have f3:=c85 s' p.at_ sb (by omega)
  have f4:=c85 s' (min (p.at_+p.text.length) f.down.inn.length) sb (by omega)
  generalize hA:forP s'.parts p.at_=A at *
  generalize hB:forP s'.parts (min (p.at_+p.text.length) f.down.inn.length)=Bb at *
  with_reducible repeat' (first|refine br ?_ ?_<;>intro h e<;>(try simp only [e,go_sem,getD_mp hk,hf,gs])<;>clear e|rw [i64w (by omega)]|refine sd ?_<;>try simp only [go_sem,getD_mp hk,hf,gs]|(first|refine cr (f1 ..) ?_|refine cr (f2 ..) ?_|refine cr (f3 ..) ?_|refine cr (f4 ..) ?_|refine cr (c73 ..) ?_)<;>try simp only [go_sem,getD_mp hk,hf,gs]|fail)
  · have hto':toR f.down s' p=Bb:=by rw [hto,if_neg (by omega),← hB];congr 2
    have g:=gr A _ rfl hto'
    refine retN (.tup [.agg (Pk.row (goesR f.down s' p).1),.bool (goesR f.down s' p).2]) [.var 26 [.sl 3 (m'.map Pair.row),.own 1 fs.length],.arr 46 8 ((fs.set k { f with down:=s' }).map Flw.row)] [] ?_ (goesA_yes_down hf hP) ?_ (by simp [argH,getN]) (by simp only [go_sem])
    · simp only [g,go_sem]
    · simp only [go_sem,List.map_set]
  · have hto':toR f.down s' p=((sOut s').length:Int):=by rw [hto,if_pos (by omega)]
    have g:=gr A _ rfl hto'
    refine retN (.tup [.agg (Pk.row (goesR f.down s' p).1),.bool (goesR f.down s' p).2]) [.var 26 [.sl 3 (m'.map Pair.row),.own 1 fs.length],.arr 46 8 ((fs.set k { f with down:=s' }).map Flw.row)] [] ?_ (goesA_yes_down hf hP) ?_ (by simp [argH,getN]) (by simp only [go_sem])
    · simp only [g,go_sem]
    · simp only [go_sem,List.map_set]
def outB (x:Door × Option Pk) (r:V) (o:List Hs):Prop :=
  ∃ q,r=.tup [.agg (Pk.row q),.bool x.2.isSome]∧(∀ q',x.2=some q'→q=q')∧o=[.var 26 [.sl 3 (x.1.map.map Pair.row),.own 1 x.1.flows.length],.arr 46 8 (x.1.flows.map Flw.row)]
theorem outB_no {d:Door}:outB (d,none) (.tup [.agg (Pk.row .zero),.bool false]) [.var 26 [.sl 3 (d.map.map Pair.row),.own 1 d.flows.length],.arr 46 8 (d.flows.map Flw.row)]:=⟨.zero,rfl,fun q h=>(by simp at h),rfl⟩
theorem outB_if (d:Door) (q:Pk) (ok:Bool):outB (d,if ok=true then some q else none) (.tup [.agg (Pk.row q),.bool ok]) [.var 26 [.sl 3 (d.map.map Pair.row),.own 1 d.flows.length],.arr 46 8 (d.flows.map Flw.row)] :=
  ⟨q,by cases ok<;>rfl,fun q' h=>by cases ok<;>simp at h;exact h,rfl⟩
def ic63:IC:=sR [oP 3 (.box 30 (.t 1)),oP 4 (.alloc 30 [i0,i0,i0,i0,i0,i0,s0]),oP 5 (.mv (.c (.bool false)))] (.seq (.drw [0,1,3,7,0,16,48,127,255,511,511,0,3071,8191] [(0,mV 10 0),(1,oP 11 (.nilc (.t 10))),(2,fD 12 0 11),(3,lD 13 1 12),(4,fD 14 3 3),(5,fD 15 1 14),(6,lD 16 1 15),(7,oP 17 (.call 71 [.t 13,.t 16])),(8,mV 9 17),(9,eX 18 9 0),(10,eX 19 9 1),(11,oP 6 (.alloc 28 [i0,i0])),(12,nP (.sto 2 (.t 6) (.t 18))),(13,mV 7 19)]) (.seq (.drw [0,1,3,0,0,16,63,127] [(0,mV 20 0),(1,oP 21 (.nilc (.t 20))),(2,lA 22 2 21),(3,lA 23 2 6),(4,fD 24 1 3),(5,lA 25 2 24),(6,oP 26 (.call 59 [.t 22,.t 23,.t 25])),(7,mV 8 26)]) (.seq (sR [mV 27 7,oP 28 (.un .not (.t 27)),mV 29 28,⟨some 30,some (29,false),.mv (.t 8)⟩,⟨some 31,some (29,false),.bin .lss (.t 30) (.c i0)⟩,oP 32 (.pick (.t 29) (.c (.bool true)) (.t 31))] (.cond (.t 32) (sR [oP 33 (.build [i0,i0,i0,i0,i0,i0,s0] []),nP (.sto 7 (.t 4) (.t 33)),oP 5 (.mv (.c (.bool false)))] .ret) .skip)) (sR [lA 34 2 6,fD 35 3 3,nP (.sto 2 (.t 35) (.t 34))] (.seq (sR [fD 36 0 3,lD 37 1 36,oP 38 (.bin .eql (.t 37) (.c (.int .i64 2)))] (.cond (.t 38) (.seq (.drw [0,1,3,7,0,31,63,127,0,511,1023,1023,4095,8191] [(0,mV 39 0),(1,oP 40 (.nilc (.t 39))),(2,fD 41 1 40),(3,lD 42 1 41),(4,mV 43 8),(5,oP 44 (.iad 8 (.t 42) (.t 43))),(6,fD 45 4 44),(7,lA 46 2 45),(8,lA 47 7 3),(9,oP 48 (.call 101 [.t 46,.t 47])),(10,eX 49 48 0),(11,eX 50 48 1),(12,nP (.sto 7 (.t 4) (.t 49))),(13,mV 5 50)]) .ret) .skip)) (.seq (.drw [0,0,2,6,14,0,62,126,0,511,1023,1023,4095,8191] [(0,mV 51 0),(1,mV 52 0),(2,oP 53 (.nilc (.t 52))),(3,fD 54 1 53),(4,lD 55 1 54),(5,mV 56 8),(6,oP 57 (.iad 8 (.t 55) (.t 56))),(7,fD 58 6 57),(8,lA 59 7 3),(9,oP 60 (.call 102 [.t 51,.t 58,.t 59,.c (.bool false)])),(10,eX 61 60 0),(11,eX 62 60 1),(12,nP (.sto 7 (.t 4) (.t 61))),(13,mV 5 62)]) .ret))))))
theorem dg63:Dg Tryz.prog 63 Tryz.f63 ic63 [(.cell 4 7 true),(.t 5)]:=⟨Tryz.func63,by kernel_rfl,by kernel_rfl⟩
theorem c63 (d:Door) (p:Pk) (hd:doorOk d=true) (hp:PkP p):FnP Tryz.prog G 63 1 [.var 26 [.sl 3 (d.map.map Pair.row),.own 1 d.flows.length],.arr 46 8 (d.flows.map Flw.row)]
    [.pv 0 0,.agg [.int .i64 p.kind,.int .i64 p.frm.a,.int .i64 p.frm.p,.int .i64 p.to.a,.int .i64 p.to.p,.int .i64 p.at_,.str p.text]] (outB (dIn d p)):=by
  refine mP dg63 Tryz.ntmps63 ?_ ?_
  · exact ⟨_,_,(dIn d p).2.getD .zero,rfl,fun q' h=>by rw [h];rfl,rfl⟩
  obtain ⟨hm,hfl,_⟩:=doorOk_iff.1 hd
  obtain ⟨hmp,hml⟩:=mapOk_ports hm
  have no:∀ l mm,dIn d p=(d,none)→getL l 4=.pv 1004 0→getL l 5=.bool false→getH mm 1004=.var 30 (Pk.row .zero)→getH mm 0=.var 26 [.sl 3 (d.map.map Pair.row),.own 1 d.flows.length]→getH mm 1=.arr 46 8 (d.flows.map Flw.row) →
      retQ [.cell 4 7 true,.t 5] 1 (outB (dIn d p)) .ret ⟨getL l,getH mm⟩:=fun l mm hx h1 h2 h3 h4 h5=>by
    rw [hx]
    refine retN _ _ [] ?_ outB_no ?_ (by simp [argH,getN]) (by simp only [go_sem])
    · simp only [go_sem,h1,h2,h3]
    · simp only [go_sem,h4,h5]
  simp only [ic63,go_sem]
  have f0:=c71 d.map p.to.p (by omega)
  with_reducible repeat' (first|refine br ?_ ?_<;>intro h e<;>(try simp only [e,go_sem])<;>clear e|rw [i64w (by omega)]|refine sd ?_<;>try simp only [go_sem]|(first|refine cr (f0 ..) ?_)<;>try simp only [go_sem]|fail)
  cases hin:insideOf d.map p.to.p with
  | none =>
    simp only [go_sem,Option.isSome_none,Option.getD_none,E.zero]
    with_reducible repeat' (first|refine br ?_ ?_<;>intro h e<;>(try simp only [e,go_sem])<;>clear e|rw [i64w (by omega)]|refine sd ?_<;>try simp only [go_sem]|fail)
    refine callF (c59 (d.map.map Pair.row) d.flows ⟨0,0⟩ p.frm (by omega)) [1] false (by simp only [go_sem];first|done|simp [E.row,Pc.row,Pair.row,Part.row,Flw.row,Pk.row,Conv.row]) (by simp only [List.mem_singleton];rintro c rfl;rfl) rfl (.inr rfl) ?_
    simp only [go_sem]
    with_reducible repeat' (first|refine br ?_ ?_<;>intro h e<;>(try simp only [e,go_sem])<;>clear e|rw [i64w (by omega)]|refine sd ?_<;>try simp only [go_sem]|fail)
    exact no _ _ (dIn_no1 hin) (by simp only [go_sem]) (by simp only [go_sem]) (by simp only [go_sem,Pk.zero,E.zero]) (by simp only [go_sem]) (by simp only [go_sem])
  | some i =>
    simp only [go_sem,Option.isSome_some,Option.getD_some]
    with_reducible repeat' (first|refine br ?_ ?_<;>intro h e<;>(try simp only [e,go_sem])<;>clear e|rw [i64w (by omega)]|refine sd ?_<;>try simp only [go_sem]|fail)
    refine callF (c59 (d.map.map Pair.row) d.flows i p.frm (by omega)) [1] false (by simp only [go_sem];first|done|simp [E.row,Pc.row,Pair.row,Part.row,Flw.row,Pk.row,Conv.row]) (by simp only [List.mem_singleton];rintro c rfl;rfl) rfl (.inr rfl) ?_
    simp only [go_sem]
    cases hf:flowIx d.flows i p.frm with
    | none =>
      simp only [ixI,go_sem]
      with_reducible repeat' (first|refine br ?_ ?_<;>intro h e<;>(try simp only [e,go_sem])<;>clear e|rw [i64w (by omega)]|refine sd ?_<;>try simp only [go_sem]|fail)
      exact no _ _ (dIn_no2 hin hf) (by simp only [go_sem]) (by simp only [go_sem]) (by simp only [go_sem,Pk.zero,E.zero]) (by simp only [go_sem]) (by simp only [go_sem])
    | some k =>
      obtain ⟨hk,hke⟩:=dIn_yes hin hf
      rw [hke]
      have hg:d.flows.getD k default=Flw.at d k:=rfl
      have hfk:d.flows[k]?=some (Flw.at d k):=by simp [Flw.at,List.getD,hk]
      obtain ⟨_,_,x6,x7,_⟩:=flow_at hd hfk
      have s1:=strmOk_B x6
      have hpa:=hp.at_
      have hpl:=hp.len
      have f1:=c101 (Flw.at d k).up { p with to:=i } s1 (by simp only;omega)
      have hlt:¬ ((k:Int)<0):=by omega
      simp only [ixI,go_sem,eq_false hlt]
      with_reducible repeat' (first|refine br ?_ ?_<;>intro h e<;>(try simp only [e,go_sem,getD_mp hk,hg])<;>clear e|rw [i64w (by omega)]|refine sd ?_<;>try simp only [go_sem,getD_mp hk,hg]|(first|refine cr (f1 ..) ?_)<;>try simp only [go_sem,getD_mp hk,hg]|fail)
      · have hx:∀ b,(acksR (Flw.at d k).up { p with to:=i }).2=b→inK d k i p=(d,if b then some (acksR (Flw.at d k).up { p with to:=i }).1 else none):=fun b hb=>by
          subst hb
          have hk2:p.kind=2:=by assumption
          simp only [inK,acksR]
          rw [if_pos hk2]
          by_cases hc:p.at_>((sOut (Flw.at d k).up).length:Int)
          · rw [if_pos hc,if_pos hc];rfl
          · rw [if_neg hc,if_neg hc,hp.ack hk2,hk2];rfl
        generalize hA:acksR (Flw.at d k).up { p with to:=i }=A at *
        obtain ⟨q,ok⟩:=A
        have hx:=hx _ rfl
        simp only at hx
        rw [hx]
        refine retN (.tup [.agg (Pk.row q),.bool ok]) [.var 26 [.sl 3 (d.map.map Pair.row),.own 1 d.flows.length],.arr 46 8 (d.flows.map Flw.row)] [] ?_ ⟨q,by cases ok<;>rfl,fun q' h=>by cases ok<;>simp at h;exact h,rfl⟩ ?_ (by simp [argH,getN]) (by simp only [go_sem])
        · simp only [go_sem]
        · simp only [go_sem]
      have hk2:¬ p.kind=2:=by assumption
      have htx:=hp.tx.resolve_left hk2
      refine callN (c102down d.map d.flows k { p with to:=i } false hm hk x7 ⟨hp.at_,hp.len,hp.tx,hp.ack,hp.kd⟩ htx) [0,1] [] true 60 2 (by simp only [go_sem];first|done|simp) (by simp only [go_sem];first|done|simp) (by simp) (by simp) (by simp) ?_ ?_ ?_
      · rintro res out (⟨_,rfl,rfl⟩|⟨_,rfl,rfl⟩)
        · exact ⟨by simp,by simp,.inl rfl,fun i hi=>by rcases (show i=0∨i=1 by omega) with rfl|rfl<;>simp [chH,stepOk]⟩
        · exact ⟨by simp,by simp,.inl rfl,fun i hi=>by rcases (show i=0∨i=1 by omega) with rfl|rfl<;>simp [chH,stepOk]⟩
      · intro i hi
        rcases (show i=0∨i=1 by omega) with rfl|rfl<;>simp only [go_sem]
      have hko:inK d k i p=if (put d.map (Flw.at d k).down p.at_ p.text false).2.2=false then (d,none)
          else (⟨d.map,d.flows.set k { Flw.at d k with down:=(put d.map (Flw.at d k).down p.at_ p.text false).2.1 }⟩,
            sendOn (Flw.at d k).down (put d.map (Flw.at d k).down p.at_ p.text false).2.1 { p with to:=i }):=by
        simp only [inK];rw [if_neg hk2,sendOn_to _ _ p i]
      have hpm:=put_mapF d.map (Flw.at d k).down p.at_ p.text
      rintro res out (⟨h,rfl,rfl⟩|⟨h,rfl,rfl⟩)
      all_goals
        simp only [hg] at h ⊢
        generalize hP:put d.map (Flw.at d k).down p.at_ p.text false=P at *
        obtain ⟨m',s',ok'⟩:=P
        simp only at h hko hpm
        subst h
        subst hpm
        simp only [go_sem]
      · rw [if_pos rfl] at hko
        rw [hko]
        with_reducible repeat' (first|refine br ?_ ?_<;>intro h e<;>(try simp only [e,go_sem])<;>clear e|rw [i64w (by omega)]|refine sd ?_<;>try simp only [go_sem]|fail)
        refine retN _ _ [] ?_ outB_no ?_ (by simp [argH,getN]) (by simp only [go_sem])
        · simp only [go_sem]
        · simp only [go_sem]
      · rw [if_neg (by simp),goesR_on] at hko
        rw [hko]
        with_reducible repeat' (first|refine br ?_ ?_<;>intro h e<;>(try simp only [e,go_sem])<;>clear e|rw [i64w (by omega)]|refine sd ?_<;>try simp only [go_sem]|fail)
        refine retN _ _ [] ?_ (outB_if ⟨d.map,d.flows.set k { Flw.at d k with down:=s' }⟩ _ _) ?_ (by simp [argH,getN]) (by simp only [go_sem])
        · simp only [go_sem]
        · simp only [go_sem,List.map_set,List.length_set]
def outC (x:Door × Option Pk) (r:V) (o:List Hs):Prop:=∃ o',outB x r o'∧∀ c,HsW (chH o c) (chH o' c)
theorem outC_of {x:Door × Option Pk} {r:V} {o:List Hs} (h:outB x r o):outC x r o:=⟨o,h,fun c=>HsW.refl _⟩
theorem openF_full {d:Door} {i o:E} (h:flowIx d.flows i o=none) (h3:¬ d.flows.length<4):openR d i o=(d,0,false):=by
  rcases hm:mOut d.map i with ⟨m,n,ok⟩
  cases ok<;>simp [openR,openF,h,hm,h3]
theorem getD_last (l:List (List V)) (r:List V) {n:Nat} (h:n=l.length) (x:List V):(l++[r]).getD n x=r:=by
  subst h;simp [List.getD]
theorem rowsNew (fs:List Flw) (i o:E):RowsW (fs.map Flw.row++[[.int .i64 i.a,.int .i64 i.p,.int .i64 o.a,.int .i64 o.p,.str [],.nils,.str [],.nils]]) ((fs++[Flw.mk i o .zero .zero]).map Flw.row):=by
  rw [List.map_append]
  exact RowsW.app (RowsW.refl _) (RowsW.one (.same _ (.same _ (.same _ (.same _ (.same _ (.nils 2 (.same _ (.nils 2 .nil)))))))))
theorem hsNew (M:List Pair) (fs:List Flw) (i o:E):∀ c,HsW (chH [.var 26 [.sl 3 (M.map Pair.row),.own 1 (fs++[Flw.mk i o .zero .zero]).length],.arr 46 8 (fs.map Flw.row++[[.int .i64 i.a,.int .i64 i.p,.int .i64 o.a,.int .i64 o.p,.str [],.nils,.str [],.nils]])] c)
    (chH [.var 26 [.sl 3 (M.map Pair.row),.own 1 (fs++[Flw.mk i o .zero .zero]).length],.arr 46 8 ((fs++[Flw.mk i o .zero .zero]).map Flw.row)] c)
  | 0=>rfl
  | 1=>⟨rfl,rfl,rowsNew fs i o⟩
  | n+2=>rfl
def ic55:IC:=sR [oP 3 (.box 30 (.t 1)),oP 4 (.alloc 30 [i0,i0,i0,i0,i0,i0,s0]),oP 5 (.mv (.c (.bool false)))] (.seq (.drw [0,1,3,0,8,0,32,127,255] [(0,mV 10 0),(1,oP 11 (.nilc (.t 10))),(2,lA 12 2 11),(3,fD 13 1 3),(4,lA 14 2 13),(5,fD 15 3 3),(6,lA 16 2 15),(7,oP 17 (.call 59 [.t 12,.t 14,.t 16])),(8,mV 6 17)]) (.seq (sR [mV 18 6,oP 19 (.bin .lss (.t 18) (.c i0))] (.cond (.t 19) (.seq (.drw [0,1,3,7,0,16,63,127,255,255,255,511,3071,8191] [(0,mV 21 0),(1,oP 22 (.nilc (.t 21))),(2,fD 23 0 22),(3,lD 24 1 23),(4,fD 25 1 3),(5,lA 26 2 25),(6,oP 27 (.call 83 [.t 24,.t 26])),(7,mV 20 27),(8,eX 28 20 0),(9,eX 29 20 1),(10,eX 30 20 2),(11,mV 7 28),(12,mV 8 29),(13,mV 9 30)]) (.seq (sR [mV 31 9,oP 32 (.un .not (.t 31)),mV 33 32,⟨some 34,some (33,false),.mv (.t 0)⟩,⟨some 35,some (33,false),.nilc (.t 34)⟩,⟨some 36,some (33,false),.fad 1 (.t 35)⟩,⟨some 37,some (33,false),.ld 1 false (.t 36)⟩,⟨some 38,some (33,false),.len (.t 37)⟩,⟨some 39,some (33,false),.bin .geq (.t 38) (.c (.int .i64 4))⟩,oP 40 (.pick (.t 33) (.c (.bool true)) (.t 39))] (.cond (.t 40) (sR [oP 41 (.build [i0,i0,i0,i0,i0,i0,s0] []),nP (.sto 7 (.t 4) (.t 41)),oP 5 (.mv (.c (.bool false)))] .ret) .skip)) (sR [mV 42 0,oP 43 (.nilc (.t 42)),fD 44 1 43,lD 45 1 44,oP 46 (.len (.t 45)),mV 6 46] (sR [mV 47 0,mV 48 7,oP 49 (.nilc (.t 47)),fD 50 0 49,nP (.sto 1 (.t 50) (.t 48))] (.drw [0,0,2,6,14,0,32,0,128,480,992,2046,4095,8191,16383] [(0,mV 51 0),(1,mV 52 0),(2,oP 53 (.nilc (.t 52))),(3,fD 54 1 53),(4,lD 55 1 54),(5,fD 56 1 3),(6,lA 57 2 56),(7,fD 58 3 3),(8,lA 59 2 58),(9,oP 60 (.build [i0,i0,i0,i0,s0,.nils,s0,.nils] [(0,(2,.t 57)),(2,(2,.t 59))])),(10,oP 61 (.bsl 46 8 [.t 60])),(11,oP 62 (.app 46 8 (.t 55) (.t 61))),(12,oP 63 (.nilc (.t 51))),(13,fD 64 1 63),(14,nP (.sto 1 (.t 64) (.t 62)))]))))) .skip)) (.seq (.drw [0,1,3,7,0,16,63,127,255,511] [(0,mV 65 0),(1,oP 66 (.nilc (.t 65))),(2,fD 67 0 66),(3,lD 68 1 67),(4,fD 69 1 3),(5,lA 70 2 69),(6,oP 71 (.call 58 [.t 68,.t 70])),(7,oP 72 (.build [i0,i0] [(0,(1,.c (.int .i64 9))),(1,(1,.t 71))])),(8,fD 73 1 3),(9,nP (.sto 2 (.t 73) (.t 72)))]) (.seq (sR [fD 74 0 3,lD 75 1 74,oP 76 (.bin .eql (.t 75) (.c (.int .i64 2)))] (.cond (.t 76) (.seq (.drw [0,1,3,7,0,31,63,127,0,511,1023,1023,4095,8191] [(0,mV 77 0),(1,oP 78 (.nilc (.t 77))),(2,fD 79 1 78),(3,lD 80 1 79),(4,mV 81 6),(5,oP 82 (.iad 8 (.t 80) (.t 81))),(6,fD 83 6 82),(7,lA 84 2 83),(8,lA 85 7 3),(9,oP 86 (.call 101 [.t 84,.t 85])),(10,eX 87 86 0),(11,eX 88 86 1),(12,nP (.sto 7 (.t 4) (.t 87))),(13,mV 5 88)]) .ret) .skip)) (.seq (.drw [0,0,2,6,14,0,62,126,0,511,1023,1023,4095,8191] [(0,mV 89 0),(1,mV 90 0),(2,oP 91 (.nilc (.t 90))),(3,fD 92 1 91),(4,lD 93 1 92),(5,mV 94 6),(6,oP 95 (.iad 8 (.t 93) (.t 94))),(7,fD 96 4 95),(8,lA 97 7 3),(9,oP 98 (.call 102 [.t 89,.t 96,.t 97,.c (.bool true)])),(10,eX 99 98 0),(11,eX 100 98 1),(12,nP (.sto 7 (.t 4) (.t 99))),(13,mV 5 100)]) .ret)))))
theorem dg55:Dg Tryz.prog 55 Tryz.f55 ic55 [(.cell 4 7 true),(.t 5)]:=⟨Tryz.func55,by kernel_rfl,by kernel_rfl⟩
theorem c55 (d:Door) (p:Pk) (hd:doorOk d=true) (hp:PkP p) (hi:p.frm.inside=true) (ho:p.to.outside=true):FnP Tryz.prog G 55 1 [.var 26 [.sl 3 (d.map.map Pair.row),.own 1 d.flows.length],.arr 46 8 (d.flows.map Flw.row)]
    [.pv 0 0,.agg [.int .i64 p.kind,.int .i64 p.frm.a,.int .i64 p.frm.p,.int .i64 p.to.a,.int .i64 p.to.p,.int .i64 p.at_,.str p.text]] (outB (dOut d p)):=by
  refine FnP.rowsOut (post:=outC (dOut d p)) ?_ fun r o h=>h
  refine mP dg55 Tryz.ntmps55 ?_ ?_
  · exact ⟨_,_,outC_of ⟨(dOut d p).2.getD .zero,rfl,fun q' h=>by rw [h];rfl,rfl⟩⟩
  obtain ⟨hm,hfl,_⟩:=doorOk_iff.1 hd
  obtain ⟨hmp,hml⟩:=mapOk_ports hm
  have hyes:=fun ok=>openR_ok hd hi ho ok
  have hout:=fun ok=>dOut_yes (p:=p) ok (hyes ok).kl
  have hno:=fun ok=>dOut_no (d:=d) (p:=p) ok
  simp only [ic55,go_sem]
  with_reducible repeat' (first|refine br ?_ ?_<;>intro h e<;>(try simp only [e,go_sem])<;>clear e|rw [i64w (by omega)]|refine sd ?_<;>try simp only [go_sem]|fail)
  refine callF (c59 (d.map.map Pair.row) d.flows p.frm p.to (by omega)) [1] false (by simp only [go_sem];first|done|simp [E.row,Pc.row,Pair.row,Part.row,Flw.row,Pk.row,Conv.row]) (by simp only [List.mem_singleton];rintro c rfl;rfl) rfl (.inr rfl) ?_
  simp only [go_sem]
  cases hf:flowIx d.flows p.frm p.to with
  | some k =>
    have hop:=openF_has hf
    rw [hop] at hyes hout hno
    have hlt:¬ ((k:Int)<0):=by omega
    simp only [ixI,go_sem,eq_false hlt]
    obtain ⟨x1,x2,x3,x4,x5,x6,x7,x8⟩:=hyes rfl
    have hout:=hout rfl
    simp only at x1 x2 x3 x4 x5 x6 x7 x8 hout
    rw [hout]
    have hg:d.flows.getD k default=Flw.at d k:=rfl
    rw [hg] at x6 x7
    have s2:=strmOk_B x7
    have hpa:=hp.at_
    have hpl:=hp.len
    have f0:=c58 d.map p.frm.a p.frm.p (by omega)
    have f1:=c101 (Flw.at d k).down { p with frm:=⟨9,portOf d.map p.frm⟩ } s2 (by simp only;omega)
    with_reducible repeat' (first|refine br ?_ ?_<;>intro h e<;>(try simp only [e,go_sem,getD_mp x4,hg])<;>clear e|rw [i64w (by omega)]|refine sd ?_<;>try simp only [go_sem,getD_mp x4,hg]|(first|refine cr (f0 ..) ?_|refine cr (f1 ..) ?_)<;>try simp only [go_sem,getD_mp x4,hg]|fail)
    · have hx:∀ b,(acksR (Flw.at d k).down { p with frm:=⟨9,portOf d.map p.frm⟩ }).2=b→outK d k p=(d,if b then some (acksR (Flw.at d k).down { p with frm:=⟨9,portOf d.map p.frm⟩ }).1 else none):=fun b hb=>by
        subst hb
        have hk2:p.kind=2:=by assumption
        simp only [outK,acksR]
        rw [if_pos hk2]
        by_cases hc:p.at_>((sOut (Flw.at d k).down).length:Int)
        · rw [if_pos hc,if_pos hc];rfl
        · rw [if_neg hc,if_neg hc,hp.ack hk2,hk2];rfl
      generalize hA:acksR (Flw.at d k).down { p with frm:=⟨9,portOf d.map p.frm⟩ }=A at *
      obtain ⟨q,ok⟩:=A
      have hx:=hx _ rfl
      simp only at hx
      rw [hx]
      refine retN _ _ [] ?_ (outC_of (outB_if d q ok)) ?_ (by simp [argH,getN]) (by simp only [go_sem])
      · simp only [go_sem]
      · simp only [go_sem]
    have hk2:¬ p.kind=2:=by assumption
    have htx:=hp.tx.resolve_left hk2
    refine callN (c102up d.map d.flows k { p with frm:=⟨9,portOf d.map p.frm⟩ } true hm x4 x6 ⟨hp.at_,hp.len,hp.tx,hp.ack,hp.kd⟩ htx) [0,1] [] true 98 2 (by simp only [go_sem];first|done|simp) (by simp only [go_sem];first|done|simp) (by simp) (by simp) (by simp) ?_ ?_ ?_
    · rintro res out (⟨_,rfl,rfl⟩|⟨_,rfl,rfl⟩)
      · exact ⟨by simp,by simp,.inl rfl,fun i hi=>by rcases (show i=0∨i=1 by omega) with rfl|rfl<;>simp [chH,stepOk]⟩
      · exact ⟨by simp,by simp,.inl rfl,fun i hi=>by rcases (show i=0∨i=1 by omega) with rfl|rfl<;>simp [chH,stepOk]⟩
    · intro i hi
      rcases (show i=0∨i=1 by omega) with rfl|rfl<;>simp only [go_sem]
    have hko:outK d k p=if (put d.map (Flw.at d k).up p.at_ p.text true).2.2=false then (d,none)
        else (⟨(put d.map (Flw.at d k).up p.at_ p.text true).1,d.flows.set k { Flw.at d k with up:=(put d.map (Flw.at d k).up p.at_ p.text true).2.1 }⟩,
          sendOn (Flw.at d k).up (put d.map (Flw.at d k).up p.at_ p.text true).2.1 { p with frm:=⟨9,portOf d.map p.frm⟩ }):=by
      simp only [outK];rw [if_neg hk2,sendOn_frm _ _ p ⟨9,portOf d.map p.frm⟩]
    rintro res out (⟨h,rfl,rfl⟩|⟨h,rfl,rfl⟩)
    all_goals
      simp only [hg] at h ⊢
      generalize hP:put d.map (Flw.at d k).up p.at_ p.text true=P at *
      obtain ⟨m',s',ok'⟩:=P
      simp only at h hko
      subst h
      simp only [go_sem]
    · rw [if_pos rfl] at hko
      rw [hko]
      with_reducible repeat' (first|refine br ?_ ?_<;>intro h e<;>(try simp only [e,go_sem])<;>clear e|rw [i64w (by omega)]|refine sd ?_<;>try simp only [go_sem]|fail)
      refine retN _ _ [] ?_ (outC_of outB_no) ?_ (by simp [argH,getN]) (by simp only [go_sem])
      · simp only [go_sem]
      · simp only [go_sem]
    · rw [if_neg (by simp),goesR_on] at hko
      rw [hko]
      with_reducible repeat' (first|refine br ?_ ?_<;>intro h e<;>(try simp only [e,go_sem])<;>clear e|rw [i64w (by omega)]|refine sd ?_<;>try simp only [go_sem]|fail)
      refine retN _ _ [] ?_ (outC_of (outB_if ⟨m',d.flows.set k { Flw.at d k with up:=s' }⟩ _ _)) ?_ (by simp [argH,getN]) (by simp only [go_sem])
      · simp only [go_sem]
      · simp only [go_sem,List.map_set,List.length_set]
  | none =>
    simp only [ixI,go_sem]
    with_reducible repeat' (first|refine br ?_ ?_<;>intro h e<;>(try simp only [e,go_sem])<;>clear e|rw [i64w (by omega)]|refine sd ?_<;>try simp only [go_sem]|fail)
    have f9:=c83 d.map p.frm.a p.frm.p hmp (by omega)
    have no:∀ l mm,dOut d p=(d,none)→getL l 4=.pv 1004 0→getL l 5=.bool false→getH mm 1004=.var 30 (Pk.row .zero)→getH mm 0=.var 26 [.sl 3 (d.map.map Pair.row),.own 1 d.flows.length]→getH mm 1=.arr 46 8 (d.flows.map Flw.row) →
        retQ [.cell 4 7 true,.t 5] 1 (outC (dOut d p)) .ret ⟨getL l,getH mm⟩:=fun l mm hx h1 h2 h3 h4 h5=>by
      rw [hx]
      refine retN _ _ [] ?_ (outC_of outB_no) ?_ (by simp [argH,getN]) (by simp only [go_sem])
      · simp only [go_sem,h1,h2,h3]
      · simp only [go_sem,h4,h5]
    refine callR f9 rfl rfl ?_
    simp only [go_sem]
    cases hok:(mOut d.map p.frm).2.2 with
    | false =>
      rw [openF_no hf hok] at hno
      simp only [go_sem]
      with_reducible repeat' (first|refine br ?_ ?_<;>intro h e<;>(try simp only [e,go_sem])<;>clear e|rw [i64w (by omega)]|refine sd ?_<;>try simp only [go_sem]|fail)
      exact no _ _ (hno rfl) (by simp only [go_sem]) (by simp only [go_sem]) (by simp only [go_sem,Pk.zero,E.zero]) (by simp only [go_sem]) (by simp only [go_sem])
    | true =>
      simp only [go_sem]
      with_reducible repeat' (first|refine br ?_ ?_<;>intro h e<;>(try simp only [e,go_sem])<;>clear e|rw [i64w (by omega)]|refine sd ?_<;>try simp only [go_sem]|fail)
      · rw [openF_full hf (by omega)] at hno
        exact no _ _ (hno rfl) (by simp only [go_sem]) (by simp only [go_sem]) (by simp only [go_sem,Pk.zero,E.zero]) (by simp only [go_sem]) (by simp only [go_sem])
      rw [openF_new hf hok (by omega)] at hyes hout
      obtain ⟨x1,x2,x3,x4,x5,x6,x7,x8⟩:=hyes rfl
      have hout:=hout rfl
      simp only at x1 x2 x3 x4 x5 x6 x7 x8 hout
      rw [hout]
      have hm2:=(mapOk_ports x1).2
      have hpa:=hp.at_
      have hpl:=hp.len
      have hg:Flw.at ⟨(mOut d.map p.frm).1,d.flows++[Flw.mk p.frm p.to .zero .zero]⟩ d.flows.length=Flw.mk p.frm p.to .zero .zero:=by simp [Flw.at,List.getD]
      have hx:∀ R:List V,((d.flows.map Flw.row)++[R]).getD d.flows.length []=R:=fun R=>getD_last _ _ (by simp) _
      have f0:=c58 (mOut d.map p.frm).1 p.frm.a p.frm.p (by omega)
      generalize hM:(mOut d.map p.frm).1=M at *
      with_reducible repeat' (first|refine br ?_ ?_<;>intro h e<;>(try simp only [e,go_sem,hx])<;>clear e|rw [i64w (by omega)]|refine sd ?_<;>try simp only [go_sem,hx]|(first|refine cr (f0 ..) ?_)<;>try simp only [go_sem,hx]|fail)
      all_goals
        refine effG (by simp only [List.length_append,List.length_map,List.length_cons,List.length_nil];omega) ?_
        simp only [go_sem,hx]
        with_reducible repeat' (first|refine br ?_ ?_<;>intro h e<;>(try simp only [e,go_sem,hx])<;>clear e|rw [i64w (by omega)]|refine sd ?_<;>try simp only [go_sem,hx]|fail)
      · have f1:=c101 .zero { p with frm:=⟨9,portOf M p.frm⟩ } (strmOk_B strmOk_zero) (by simp only;omega)
        refine callF f1 [] true (by simp only [go_sem,Strm.zero]) (by simp) rfl (.inl rfl) ?_
        simp only [go_sem]
        with_reducible repeat' (first|refine br ?_ ?_<;>intro h e<;>(try simp only [e,go_sem,hx])<;>clear e|rw [i64w (by omega)]|refine sd ?_<;>try simp only [go_sem,hx]|fail)
        have hx2:∀ b,(acksR .zero { p with frm:=⟨9,portOf M p.frm⟩ }).2=b→outK ⟨M,d.flows++[Flw.mk p.frm p.to .zero .zero]⟩ d.flows.length p=(⟨M,d.flows++[Flw.mk p.frm p.to .zero .zero]⟩,if b then some (acksR .zero { p with frm:=⟨9,portOf M p.frm⟩ }).1 else none):=fun b hb=>by
          subst hb
          have hk2:p.kind=2:=by assumption
          simp only [outK,acksR,hg]
          rw [if_pos hk2]
          by_cases hc:p.at_>((sOut .zero).length:Int)
          · rw [if_pos hc,if_pos hc];rfl
          · rw [if_neg hc,if_neg hc,hp.ack hk2,hk2];rfl
        generalize hA:acksR .zero { p with frm:=⟨9,portOf M p.frm⟩ }=A at *
        obtain ⟨q,ok⟩:=A
        have hx2:=hx2 _ rfl
        simp only at hx2
        rw [hx2]
        refine retN _ _ [(1,1062)] ?_ ⟨_,outB_if ⟨M,d.flows++[Flw.mk p.frm p.to .zero .zero]⟩ q ok,hsNew M d.flows p.frm p.to⟩ ?_ (by simp [argH,getN]) (by simp only [go_sem])
        · simp only [go_sem]
        · simp only [go_sem];simp
      have hk2:¬ p.kind=2:=by assumption
      have htx:=hp.tx.resolve_left hk2
      refine callN (FnP.rowsIn (c102up M (d.flows++[Flw.mk p.frm p.to .zero .zero]) d.flows.length { p with frm:=⟨9,portOf M p.frm⟩ } true x1 x4 x6 ⟨hp.at_,hp.len,hp.tx,hp.ack,hp.kd⟩ htx) (hsNew M d.flows p.frm p.to)) [0,1062] [] true 98 2 (by simp only [go_sem];first|done|simp) (by simp only [go_sem];first|done|simp) (by simp) (by simp) (by simp) ?_ ?_ ?_
      · rintro res out (⟨_,rfl,rfl⟩|⟨_,rfl,rfl⟩)
        · exact ⟨by simp,by simp,.inl rfl,fun i hi=>by rcases (show i=0∨i=1 by omega) with rfl|rfl<;>simp [chH,stepOk]⟩
        · exact ⟨by simp,by simp,.inl rfl,fun i hi=>by rcases (show i=0∨i=1 by omega) with rfl|rfl<;>simp [chH,stepOk]⟩
      · intro i hi
        rcases (show i=0∨i=1 by omega) with rfl|rfl<;>simp only [go_sem]
      have hgd:(d.flows++[Flw.mk p.frm p.to .zero .zero]).getD d.flows.length default=Flw.mk p.frm p.to .zero .zero:=hg
      have hko:outK ⟨M,d.flows++[Flw.mk p.frm p.to .zero .zero]⟩ d.flows.length p=if (put M .zero p.at_ p.text true).2.2=false then (⟨M,d.flows++[Flw.mk p.frm p.to .zero .zero]⟩,none)
          else (⟨(put M .zero p.at_ p.text true).1,(d.flows++[Flw.mk p.frm p.to .zero .zero]).set d.flows.length { Flw.mk p.frm p.to .zero .zero with up:=(put M .zero p.at_ p.text true).2.1 }⟩,
            sendOn .zero (put M .zero p.at_ p.text true).2.1 { p with frm:=⟨9,portOf M p.frm⟩ }):=by
        simp only [outK,hg];rw [if_neg hk2,sendOn_frm _ _ p ⟨9,portOf M p.frm⟩]
      rintro res out (⟨h,rfl,rfl⟩|⟨h,rfl,rfl⟩)
      all_goals
        simp only [hgd] at h ⊢
        generalize hP:put M .zero p.at_ p.text true=P at *
        obtain ⟨m',s',ok'⟩:=P
        simp only at h hko
        subst h
        simp only [go_sem]
      · rw [if_pos rfl] at hko
        rw [hko]
        with_reducible repeat' (first|refine br ?_ ?_<;>intro h e<;>(try simp only [e,go_sem])<;>clear e|rw [i64w (by omega)]|refine sd ?_<;>try simp only [go_sem]|fail)
        refine retN _ _ [(1,1062)] ?_ (outC_of outB_no) ?_ (by simp [argH,getN]) (by simp only [go_sem])
        · simp only [go_sem]
        · simp only [go_sem]
      · rw [if_neg (by simp),goesR_on] at hko
        rw [hko]
        with_reducible repeat' (first|refine br ?_ ?_<;>intro h e<;>(try simp only [e,go_sem])<;>clear e|rw [i64w (by omega)]|refine sd ?_<;>try simp only [go_sem]|fail)
        refine retN _ _ [(1,1062)] ?_ (outC_of (outB_if ⟨m',(d.flows++[Flw.mk p.frm p.to .zero .zero]).set d.flows.length { Flw.mk p.frm p.to .zero .zero with up:=s' }⟩ _ _)) ?_ (by simp [argH,getN]) (by simp only [go_sem])
        · simp only [go_sem]
        · simp only [go_sem,List.map_set,List.length_set]
theorem copyC {d:Door} (hd:doorOk d=true):∀ f∈d.flows,f.up.parts.length≤2000000∧f.down.parts.length≤2000000:=fun f hf=>by
  obtain ⟨k,hk⟩:=List.mem_iff_getElem?.1 hf
  obtain ⟨_,_,h1,h2,_⟩:=flow_at hd hk
  have:=(strmOk_B h1).2.1
  have:=(strmOk_B h2).2.1
  omega
def ic79:IC:=sR [oP 3 (.box 30 (.t 1)),oP 4 (.alloc 30 [i0,i0,i0,i0,i0,i0,s0]),oP 5 (.mv (.c (.bool false)))] (.seq (.block 0 (sR [lA 7 7 3,oP 8 (.call 53 [.t 7]),mV 6 8] (.cond (.t 6) (sR [mV 9 0,lA 10 7 3,oP 11 (.call 55 [.t 9,.t 10]),eX 12 11 0,eX 13 11 1,nP (.sto 7 (.t 4) (.t 12)),mV 5 13] .ret) (sR [lA 15 7 3,oP 16 (.call 62 [.t 15]),mV 14 16] (.cond (.t 14) (sR [mV 17 0,lA 18 7 3,oP 19 (.call 63 [.t 17,.t 18]),eX 20 19 0,eX 21 19 1,nP (.sto 7 (.t 4) (.t 20)),mV 5 21] .ret) .skip))))) (sR [oP 22 (.build [i0,i0,i0,i0,i0,i0,s0] []),nP (.sto 7 (.t 4) (.t 22)),oP 5 (.mv (.c (.bool false)))] .ret))
theorem dg79:Dg Tryz.prog 79 Tryz.f79 ic79 [(.cell 4 7 true),(.t 5)]:=⟨Tryz.func79,by kernel_rfl,by kernel_rfl⟩
theorem c79 (d:Door) (p:Pk) (hd:doorOk d=true) (hp:PkP p):FnP Tryz.prog G 79 1 [.var 26 [.sl 3 (d.map.map Pair.row),.own 1 d.flows.length],.arr 46 8 (d.flows.map Flw.row)]
    [.pv 0 0,.agg [.int .i64 p.kind,.int .i64 p.frm.a,.int .i64 p.frm.p,.int .i64 p.to.a,.int .i64 p.to.p,.int .i64 p.at_,.str p.text]] (outB (dPass d p)):=by
  refine mP dg79 Tryz.ntmps79 ?_ ?_
  · exact ⟨_,_,(dPass d p).2.getD .zero,rfl,fun q' h=>by rw [h];rfl,rfl⟩
  have b1:=c53 p
  have b2:=c62 p
  simp only [ic79,go_sem]
  with_reducible repeat' (first|refine br ?_ ?_<;>intro h e<;>(try simp only [e,go_sem])<;>clear e|rw [i64w (by omega)]|refine sd ?_<;>try simp only [go_sem]|(first|refine cr (b1 ..) ?_|refine cr (b2 ..) ?_)<;>try simp only [go_sem]|fail)
  · have hx:dPass d p=dOut d p:=by simp_all [dPass]
    rw [hx]
    have hio:p.frm.inside=true∧p.to.outside=true:=by simp_all [Pk.outward]
    refine callN (c55 d p hd hp hio.1 hio.2) [0,1] [] true 11 2 (by simp only [go_sem];first|done|simp) (by simp only [go_sem];first|done|simp) (by simp) (by simp) (by simp) ?_ ?_ ?_
    · rintro res out ⟨q,rfl,hq,rfl⟩
      exact ⟨by simp,by simp,.inl rfl,fun i hi=>by obtain rfl:i=0:=(by omega);simp [chH,stepOk]⟩
    · intro i hi
      rcases (show i=0∨i=1 by omega) with rfl|rfl<;>simp only [go_sem]
    rintro res out ⟨q,rfl,hq,rfl⟩
    simp only [go_sem]
    refine retN _ _ [(1,101101)] ?_ ⟨q,rfl,hq,rfl⟩ ?_ (by simp [argH,getN]) (by simp only [go_sem])
    · simp only [go_sem]
    · simp only [go_sem]
  · have hx:dPass d p=dIn d p:=by simp_all [dPass]
    rw [hx]
    refine callN (c63 d p hd hp) [0,1] [] true 19 2 (by simp only [go_sem];first|done|simp) (by simp only [go_sem];first|done|simp) (by simp) (by simp) (by simp) ?_ ?_ ?_
    · rintro res out ⟨q,rfl,hq,rfl⟩
      exact ⟨by simp,by simp,.inl rfl,fun i hi=>by obtain rfl:i=0:=(by omega);simp [chH,stepOk]⟩
    · intro i hi
      rcases (show i=0∨i=1 by omega) with rfl|rfl<;>simp only [go_sem]
    rintro res out ⟨q,rfl,hq,rfl⟩
    simp only [go_sem]
    refine retN _ _ [(1,101901)] ?_ ⟨q,rfl,hq,rfl⟩ ?_ (by simp [argH,getN]) (by simp only [go_sem])
    · simp only [go_sem]
    · simp only [go_sem]
  · have hx:dPass d p=(d,none):=by simp_all [dPass]
    rw [hx]
    refine retN _ _ [] ?_ outB_no ?_ (by simp [argH,getN]) (by simp only [go_sem])
    · simp only [go_sem,Pk.zero,E.zero]
    · simp only [go_sem]
theorem k54 (rows:List (List V)) (fs:List Flw) (hr:rows.length≤2000000) (hf:fs.length≤1000000) (h:∀ f∈fs,f.up.parts.length≤2000000∧f.down.parts.length≤2000000) :
    FnP Tryz.prog G 54 0 [] [.agg [.sl 3 rows,.sl 8 (fs.map Flw.row)]] (fun r o=>r=.agg [.sl 3 rows,.own 0 fs.length]∧o=[.arr 46 8 (fs.map Flw.row)]):=by
  refine mP dg54 Tryz.ntmps54 ⟨_,_,rfl,rfl⟩ ?_
  simp only [ic54,go_sem]
  with_reducible repeat' (first|refine br ?_ ?_<;>intro h e<;>(try simp only [e,go_sem])<;>clear e|rw [i64w (by omega)]|refine sd ?_<;>try simp only [go_sem]|fail)
  refine callO (c99 rows hr) [] 8 1 (by simp only [go_sem];first|done|simp) (by simp) (by rintro _ _ ⟨rfl,rfl⟩;simp) (by intro i hi;obtain rfl:i=0:=(by omega);simp only [go_sem]) ?_
  rintro _ _ ⟨rfl,rfl⟩
  simp only [go_sem]
  with_reducible repeat' (first|refine br ?_ ?_<;>intro h e<;>(try simp only [e,go_sem])<;>clear e|rw [i64w (by omega)]|refine sd ?_<;>try simp only [go_sem]|fail)
  refine loopN (fun k:Nat=>⟨getL [(2,.pv 1002 0),(3,.pv 1003 0),(15,.sl 8 (fs.map Flw.row)),(16,.int .i64 fs.length),(17,.int .i64 (k:Int))],getH [(1002,.var 26 [.nils,.nils]),(1003,.var 26 [.own 100800 rows.length,.own 1012 k]),(100800,.arr 82 3 rows),(1012,.arr 46 8 ((fs.take k).map Flw.row))]⟩) (fun k=>fs.length - k)
    (fun k=>k≤fs.length) 0 (leQ []) (Nat.zero_le _) ?_
  intro k hk
  simp only [go_sem]
  by_cases h5:(k:Int)<fs.length
  · have hil:k<fs.length:=by omega
    have hg:fs.getD k default=fs[k]:=by simp [List.getD,hil]
    have hlen:(fs.take k).length=k:=by simp;omega
    have c1:=c100 fs[k] (h _ (List.getElem_mem hil))
    simp only [eq_true h5,go_sem]
    with_reducible repeat' (first|refine br ?_ ?_<;>intro h e<;>(try simp only [e,go_sem,hg,hlen])<;>clear e|rw [i64w (by omega)]|refine sd ?_<;>try simp only [go_sem,hg,hlen]|(first|refine cr (c1 ..) ?_)<;>try simp only [go_sem,hg,hlen]|fail)
    refine ⟨k+1,by omega,by omega,leN [(1012,1026)] ?_ ?_ (by simp [getN]) (by simp only [go_sem])⟩
    · simp only [go_sem];first|done|omega
    · simp only [go_sem];rw [List.take_add_one,List.getElem?_eq_getElem hil];simp only [Option.toList_some,List.map_append,List.map_cons,List.map_nil,Flw.row]
  · simp only [eq_false h5,go_sem]
    have:k=fs.length:=by omega
    subst this
    rw [List.take_length]
    with_reducible repeat' (first|refine br ?_ ?_<;>intro h e<;>(try simp only [e,go_sem])<;>clear e|rw [i64w (by omega)]|refine sd ?_<;>try simp only [go_sem]|fail)
    refine retN (.agg [.sl 3 rows,.own 0 fs.length]) [.arr 46 8 (fs.map Flw.row)] [(0,1012)] ?_ ⟨rfl,rfl⟩ ?_ (by simp [argH,getN]) (by simp only [go_sem])
    · simp only [go_sem];first|done|simp
    · simp only [go_sem]
def ic18:IC:=sR [oP 2 (.box 26 (.t 0)),oP 3 (.box 30 (.t 1)),oP 4 (.alloc 26 [.nils,.nils]),oP 5 (.alloc 30 [i0,i0,i0,i0,i0,i0,s0]),oP 6 (.mv (.c (.bool false)))] (.seq (sR [lA 10 2 2,oP 11 (.call 20 [.t 10]),oP 12 (.un .not (.t 11)),mV 13 12,⟨some 14,some (13,false),.ld 7 true (.t 3)⟩,⟨some 15,some (13,false),.call 30 [.t 14]⟩,⟨some 16,some (13,false),.un .not (.t 15)⟩,oP 17 (.pick (.t 13) (.c (.bool true)) (.t 16)),mV 18 17,⟨some 19,some (18,false),.ld 7 true (.t 3)⟩,⟨some 20,some (18,false),.call 53 [.t 19]⟩,⟨some 21,some (18,false),.un .not (.t 20)⟩,oP 22 (.pick (.t 18) (.c (.bool true)) (.t 21))] (.cond (.t 22) (sR [oP 23 (.build [.nils,.nils] []),oP 24 (.build [i0,i0,i0,i0,i0,i0,s0] []),nP (.sto 2 (.t 4) (.t 23)),nP (.sto 7 (.t 5) (.t 24)),oP 6 (.mv (.c (.bool false)))] .ret) .skip)) (sR [lA 25 2 2,oP 26 (.call 54 [.t 25]),oP 7 (.alloc 26 [.nils,.nils]),nP (.sto 2 (.t 7) (.t 26))] (sR [lA 28 7 3,oP 29 (.call 55 [.t 7,.t 28]),mV 27 29,eX 30 27 0,eX 31 27 1,oP 8 (.alloc 30 [i0,i0,i0,i0,i0,i0,s0]),nP (.sto 7 (.t 8) (.t 30)),mV 9 31] (sR [lA 32 7 8,mV 33 9,oP 34 (.call 56 [.t 7,.t 32,.t 33]),eX 35 34 0,eX 36 34 1,eX 37 34 2,nP (.sto 2 (.t 4) (.t 35)),nP (.sto 7 (.t 5) (.t 36)),mV 6 37] .ret))))
theorem dg18:Dg Tryz.prog 18 Tryz.f18 ic18 [(.cell 4 2 true),(.cell 5 7 true),(.t 6)]:=⟨Tryz.func18,by kernel_rfl,by kernel_rfl⟩
theorem c18 (d:Door) (p:Pk) (hb:DB d) (ht:p.text.length≤2000000):FnR Tryz.prog G 18 [.agg [.sl 3 (d.map.map Pair.row),.sl 8 (d.flows.map Flw.row)],.agg [.int .i64 p.kind,.int .i64 p.frm.a,.int .i64 p.frm.p,.int .i64 p.to.a,.int .i64 p.to.p,.int .i64 p.at_,.str p.text]]
    (.tup [.agg [.sl 3 ((doorOut d p).1.map.map Pair.row),.sl 8 ((doorOut d p).1.flows.map Flw.row)],.agg (Pk.row ((doorOut d p).2.getD .zero)),.bool (doorOut d p).2.isSome]):=by
  refine mF dg18 Tryz.ntmps18 ?_
  simp only [ic18,go_sem]
  have c1:=c20 d hb
  have c2:=c30 p ht
  have b1:=c53 p
  with_reducible repeat' (first|refine br ?_ ?_<;>intro h e<;>(try simp only [e,go_sem])<;>clear e|rw [i64w (by omega)]|refine sd ?_<;>try simp only [go_sem]|(first|refine cr (c1 ..) ?_|refine cr (c2 ..) ?_|refine cr (b1 ..) ?_)<;>try simp only [go_sem]|fail)
  all_goals first
    | (have hx:doorOut d p=(.zero,none):=by simp_all [doorOut]
       rw [hx];simp [Door.zero,Pk.zero,E.zero];done)
    | skip
  have hd:doorOk d=true:=by simp_all
  have hpk:pkOk p=true:=by simp_all
  have how:p.outward=true:=by simp_all
  have hio:p.frm.inside=true∧p.to.outside=true:=by simp_all [Pk.outward]
  have hx:doorOut d p=dOut d p:=by simp_all [doorOut]
  rw [hx]
  have hp:=pkOk_P hpk
  obtain ⟨hd2,hfl2⟩:=dOut_ok hd hp how
  obtain ⟨hm2,hf4,_⟩:=doorOk_iff.1 hd2
  have hml2:=(mapOk_ports hm2).2
  refine callO (k54 (d.map.map Pair.row) d.flows (by simp;exact hb.1) (by have:=(doorOk_iff.1 hd).2.1;omega) (copyC hd)) [] 26 1 (by simp only [go_sem];first|done|simp) (by simp) (by rintro _ _ ⟨rfl,rfl⟩;simp) (by intro i hi;obtain rfl:i=0:=(by omega);simp only [go_sem]) ?_
  rintro _ _ ⟨rfl,rfl⟩
  simp only [go_sem]
  with_reducible repeat' (first|refine br ?_ ?_<;>intro h e<;>(try simp only [e,go_sem])<;>clear e|rw [i64w (by omega)]|refine sd ?_<;>try simp only [go_sem]|fail)
  refine callN (c55 d p hd hp hio.1 hio.2) [1007,102600] [] true 29 2 (by simp only [go_sem];first|done|simp) (by simp only [go_sem];first|done|simp) (by simp) (by simp) (by simp) ?_ ?_ ?_
  · rintro res out ⟨q,rfl,hq,rfl⟩
    exact ⟨by simp,by simp,.inl rfl,fun i hi=>by obtain rfl:i=0:=(by omega);simp [chH,stepOk]⟩
  · intro i hi
    rcases (show i=0∨i=1 by omega) with rfl|rfl<;>simp only [go_sem]
  rintro res out ⟨q,rfl,hq,rfl⟩
  simp only [go_sem]
  refine callU (c56 (dOut d p).1.map (dOut d p).1.flows q (dOut d p).2.isSome (by omega) (by omega) (copyC hd2)) [1007,102901] [] 34 0 (by simp only [go_sem];first|done|simp) (by simp only [go_sem];first|done|simp) (by simp) (by simp) (by rintro _ _ ⟨rfl,rfl⟩;simp) (by intro i hi;omega) ?_
  rintro _ _ ⟨rfl,rfl⟩
  simp only [go_sem]
  have hqq:(bif (dOut d p).2.isSome then q else .zero)=(dOut d p).2.getD .zero:=by
    cases h:(dOut d p).2 with
    | none=>rfl
    | some q'=>simp [hq q' h]
  simp only [hqq,go_sem]
  with_reducible repeat' (first|refine br ?_ ?_<;>intro h e<;>(try simp only [e,go_sem])<;>clear e|rw [i64w (by omega)]|refine sd ?_<;>try simp only [go_sem]|fail)
def ic23:IC:=sR [oP 2 (.box 26 (.t 0)),oP 3 (.box 30 (.t 1)),oP 4 (.alloc 26 [.nils,.nils]),oP 5 (.alloc 30 [i0,i0,i0,i0,i0,i0,s0]),oP 6 (.mv (.c (.bool false)))] (.seq (sR [lA 10 2 2,oP 11 (.call 20 [.t 10]),oP 12 (.un .not (.t 11)),mV 13 12,⟨some 14,some (13,false),.ld 7 true (.t 3)⟩,⟨some 15,some (13,false),.call 30 [.t 14]⟩,⟨some 16,some (13,false),.un .not (.t 15)⟩,oP 17 (.pick (.t 13) (.c (.bool true)) (.t 16)),mV 18 17,⟨some 19,some (18,false),.ld 7 true (.t 3)⟩,⟨some 20,some (18,false),.call 62 [.t 19]⟩,⟨some 21,some (18,false),.un .not (.t 20)⟩,oP 22 (.pick (.t 18) (.c (.bool true)) (.t 21))] (.cond (.t 22) (sR [oP 23 (.build [.nils,.nils] []),oP 24 (.build [i0,i0,i0,i0,i0,i0,s0] []),nP (.sto 2 (.t 4) (.t 23)),nP (.sto 7 (.t 5) (.t 24)),oP 6 (.mv (.c (.bool false)))] .ret) .skip)) (sR [lA 25 2 2,oP 26 (.call 54 [.t 25]),oP 7 (.alloc 26 [.nils,.nils]),nP (.sto 2 (.t 7) (.t 26))] (sR [lA 28 7 3,oP 29 (.call 63 [.t 7,.t 28]),mV 27 29,eX 30 27 0,eX 31 27 1,oP 8 (.alloc 30 [i0,i0,i0,i0,i0,i0,s0]),nP (.sto 7 (.t 8) (.t 30)),mV 9 31] (sR [lA 32 7 8,mV 33 9,oP 34 (.call 56 [.t 7,.t 32,.t 33]),eX 35 34 0,eX 36 34 1,eX 37 34 2,nP (.sto 2 (.t 4) (.t 35)),nP (.sto 7 (.t 5) (.t 36)),mV 6 37] .ret))))
theorem dg23:Dg Tryz.prog 23 Tryz.f23 ic23 [(.cell 4 2 true),(.cell 5 7 true),(.t 6)]:=⟨Tryz.func23,by kernel_rfl,by kernel_rfl⟩
theorem c23 (d:Door) (p:Pk) (hb:DB d) (ht:p.text.length≤2000000):FnR Tryz.prog G 23 [.agg [.sl 3 (d.map.map Pair.row),.sl 8 (d.flows.map Flw.row)],.agg [.int .i64 p.kind,.int .i64 p.frm.a,.int .i64 p.frm.p,.int .i64 p.to.a,.int .i64 p.to.p,.int .i64 p.at_,.str p.text]]
    (.tup [.agg [.sl 3 ((doorIn d p).1.map.map Pair.row),.sl 8 ((doorIn d p).1.flows.map Flw.row)],.agg (Pk.row ((doorIn d p).2.getD .zero)),.bool (doorIn d p).2.isSome]):=by
  refine mF dg23 Tryz.ntmps23 ?_
  simp only [ic23,go_sem]
  have c1:=c20 d hb
  have c2:=c30 p ht
  have b1:=c62 p
  with_reducible repeat' (first|refine br ?_ ?_<;>intro h e<;>(try simp only [e,go_sem])<;>clear e|rw [i64w (by omega)]|refine sd ?_<;>try simp only [go_sem]|(first|refine cr (c1 ..) ?_|refine cr (c2 ..) ?_|refine cr (b1 ..) ?_)<;>try simp only [go_sem]|fail)
  all_goals first
    | (have hx:doorIn d p=(.zero,none):=by simp_all [doorIn]
       rw [hx];simp [Door.zero,Pk.zero,E.zero];done)
    | skip
  have hd:doorOk d=true:=by simp_all
  have hpk:pkOk p=true:=by simp_all
  have how:p.inward=true:=by simp_all
  have hx:doorIn d p=dIn d p:=by simp_all [doorIn]
  rw [hx]
  have hp:=pkOk_P hpk
  obtain ⟨hd2,hfl2⟩:=dIn_ok hd hp
  obtain ⟨hm2,hf4,_⟩:=doorOk_iff.1 hd2
  have hml2:=(mapOk_ports hm2).2
  refine callO (k54 (d.map.map Pair.row) d.flows (by simp;exact hb.1) (by have:=(doorOk_iff.1 hd).2.1;omega) (copyC hd)) [] 26 1 (by simp only [go_sem];first|done|simp) (by simp) (by rintro _ _ ⟨rfl,rfl⟩;simp) (by intro i hi;obtain rfl:i=0:=(by omega);simp only [go_sem]) ?_
  rintro _ _ ⟨rfl,rfl⟩
  simp only [go_sem]
  with_reducible repeat' (first|refine br ?_ ?_<;>intro h e<;>(try simp only [e,go_sem])<;>clear e|rw [i64w (by omega)]|refine sd ?_<;>try simp only [go_sem]|fail)
  refine callN (c63 d p hd hp) [1007,102600] [] true 29 2 (by simp only [go_sem];first|done|simp) (by simp only [go_sem];first|done|simp) (by simp) (by simp) (by simp) ?_ ?_ ?_
  · rintro res out ⟨q,rfl,hq,rfl⟩
    exact ⟨by simp,by simp,.inl rfl,fun i hi=>by obtain rfl:i=0:=(by omega);simp [chH,stepOk]⟩
  · intro i hi
    rcases (show i=0∨i=1 by omega) with rfl|rfl<;>simp only [go_sem]
  rintro res out ⟨q,rfl,hq,rfl⟩
  simp only [go_sem]
  refine callU (c56 (dIn d p).1.map (dIn d p).1.flows q (dIn d p).2.isSome (by omega) (by omega) (copyC hd2)) [1007,102901] [] 34 0 (by simp only [go_sem];first|done|simp) (by simp only [go_sem];first|done|simp) (by simp) (by simp) (by rintro _ _ ⟨rfl,rfl⟩;simp) (by intro i hi;omega) ?_
  rintro _ _ ⟨rfl,rfl⟩
  simp only [go_sem]
  have hqq:(bif (dIn d p).2.isSome then q else .zero)=(dIn d p).2.getD .zero:=by
    cases h:(dIn d p).2 with
    | none=>rfl
    | some q'=>simp [hq q' h]
  simp only [hqq,go_sem]
  with_reducible repeat' (first|refine br ?_ ?_<;>intro h e<;>(try simp only [e,go_sem])<;>clear e|rw [i64w (by omega)]|refine sd ?_<;>try simp only [go_sem]|fail)
def ic39:IC:=sR [oP 2 (.box 26 (.t 0)),oP 3 (.box 30 (.t 1)),oP 4 (.alloc 26 [.nils,.nils]),oP 5 (.alloc 30 [i0,i0,i0,i0,i0,i0,s0]),oP 6 (.mv (.c (.bool false)))] (.seq (sR [lA 10 2 2,oP 11 (.call 20 [.t 10]),oP 12 (.un .not (.t 11)),mV 13 12,⟨some 14,some (13,false),.ld 7 true (.t 3)⟩,⟨some 15,some (13,false),.call 30 [.t 14]⟩,⟨some 16,some (13,false),.un .not (.t 15)⟩,oP 17 (.pick (.t 13) (.c (.bool true)) (.t 16))] (.cond (.t 17) (sR [oP 18 (.build [.nils,.nils] []),oP 19 (.build [i0,i0,i0,i0,i0,i0,s0] []),nP (.sto 2 (.t 4) (.t 18)),nP (.sto 7 (.t 5) (.t 19)),oP 6 (.mv (.c (.bool false)))] .ret) .skip)) (sR [lA 20 2 2,oP 21 (.call 54 [.t 20]),oP 7 (.alloc 26 [.nils,.nils]),nP (.sto 2 (.t 7) (.t 21))] (sR [lA 23 7 3,oP 24 (.call 79 [.t 7,.t 23]),mV 22 24,eX 25 22 0,eX 26 22 1,oP 8 (.alloc 30 [i0,i0,i0,i0,i0,i0,s0]),nP (.sto 7 (.t 8) (.t 25)),mV 9 26] (sR [lA 27 7 8,mV 28 9,oP 29 (.call 56 [.t 7,.t 27,.t 28]),eX 30 29 0,eX 31 29 1,eX 32 29 2,nP (.sto 2 (.t 4) (.t 30)),nP (.sto 7 (.t 5) (.t 31)),mV 6 32] .ret))))
theorem dg39:Dg Tryz.prog 39 Tryz.f39 ic39 [(.cell 4 2 true),(.cell 5 7 true),(.t 6)]:=⟨Tryz.func39,by kernel_rfl,by kernel_rfl⟩
theorem c39 (d:Door) (p:Pk) (hb:DB d) (ht:p.text.length≤2000000):FnR Tryz.prog G 39 [.agg [.sl 3 (d.map.map Pair.row),.sl 8 (d.flows.map Flw.row)],.agg [.int .i64 p.kind,.int .i64 p.frm.a,.int .i64 p.frm.p,.int .i64 p.to.a,.int .i64 p.to.p,.int .i64 p.at_,.str p.text]]
    (.tup [.agg [.sl 3 ((doorPass d p).1.map.map Pair.row),.sl 8 ((doorPass d p).1.flows.map Flw.row)],.agg (Pk.row ((doorPass d p).2.getD .zero)),.bool (doorPass d p).2.isSome]):=by
  refine mF dg39 Tryz.ntmps39 ?_
  simp only [ic39,go_sem]
  have c1:=c20 d hb
  have c2:=c30 p ht
  with_reducible repeat' (first|refine br ?_ ?_<;>intro h e<;>(try simp only [e,go_sem])<;>clear e|rw [i64w (by omega)]|refine sd ?_<;>try simp only [go_sem]|(first|refine cr (c1 ..) ?_|refine cr (c2 ..) ?_)<;>try simp only [go_sem]|fail)
  all_goals first
    | (have hx:doorPass d p=(.zero,none):=by simp_all [doorPass]
       rw [hx];simp [Door.zero,Pk.zero,E.zero];done)
    | skip
  have hd:doorOk d=true:=by simp_all
  have hpk:pkOk p=true:=by simp_all
  have hx:doorPass d p=dPass d p:=by simp_all [doorPass]
  rw [hx]
  have hp:=pkOk_P hpk
  obtain ⟨hd2,hfl2⟩:=dPass_ok hd hp
  obtain ⟨hm2,hf4,_⟩:=doorOk_iff.1 hd2
  have hml2:=(mapOk_ports hm2).2
  refine callO (k54 (d.map.map Pair.row) d.flows (by simp;exact hb.1) (by have:=(doorOk_iff.1 hd).2.1;omega) (copyC hd)) [] 21 1 (by simp only [go_sem];first|done|simp) (by simp) (by rintro _ _ ⟨rfl,rfl⟩;simp) (by intro i hi;obtain rfl:i=0:=(by omega);simp only [go_sem]) ?_
  rintro _ _ ⟨rfl,rfl⟩
  simp only [go_sem]
  with_reducible repeat' (first|refine br ?_ ?_<;>intro h e<;>(try simp only [e,go_sem])<;>clear e|rw [i64w (by omega)]|refine sd ?_<;>try simp only [go_sem]|fail)
  refine callN (c79 d p hd hp) [1007,102100] [] true 24 2 (by simp only [go_sem];first|done|simp) (by simp only [go_sem];first|done|simp) (by simp) (by simp) (by simp) ?_ ?_ ?_
  · rintro res out ⟨q,rfl,hq,rfl⟩
    exact ⟨by simp,by simp,.inl rfl,fun i hi=>by obtain rfl:i=0:=(by omega);simp [chH,stepOk]⟩
  · intro i hi
    rcases (show i=0∨i=1 by omega) with rfl|rfl<;>simp only [go_sem]
  rintro res out ⟨q,rfl,hq,rfl⟩
  simp only [go_sem]
  refine callU (c56 (dPass d p).1.map (dPass d p).1.flows q (dPass d p).2.isSome (by omega) (by omega) (copyC hd2)) [1007,102401] [] 29 0 (by simp only [go_sem];first|done|simp) (by simp only [go_sem];first|done|simp) (by simp) (by simp) (by rintro _ _ ⟨rfl,rfl⟩;simp) (by intro i hi;omega) ?_
  rintro _ _ ⟨rfl,rfl⟩
  simp only [go_sem]
  have hqq:(bif (dPass d p).2.isSome then q else .zero)=(dPass d p).2.getD .zero:=by
    cases h:(dPass d p).2 with
    | none=>rfl
    | some q'=>simp [hq q' h]
  simp only [hqq,go_sem]
  with_reducible repeat' (first|refine br ?_ ?_<;>intro h e<;>(try simp only [e,go_sem])<;>clear e|rw [i64w (by omega)]|refine sd ?_<;>try simp only [go_sem]|fail)
end Go.Proofs.YtfepdcpidkjklaaGreatDoor.W
