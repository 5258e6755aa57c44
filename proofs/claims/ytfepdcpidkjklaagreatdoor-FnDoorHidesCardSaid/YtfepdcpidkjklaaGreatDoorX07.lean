/- Part 7 of the proof: the walk over values, the plain model, contracts of the functions of the program. -/
import Derived.Test.YtfepdcpidkjklaaGreatDoorX06
import Derived.Test.YtfepdcpidkjklaaGreatDoorX04
import Derived.Test.YtfepdcpidkjklaaGreatDoorX03
set_option linter.all false
namespace Go.Proofs.YtfepdcpidkjklaaGreatDoor.W
open Go Go.RowKit Go.Proofs Go.Proofs.YtfepdcpidkjklaaGreatDoor.VL Go.Proofs.YtfepdcpidkjklaaGreatDoor.M
attribute [local congr] optK_congr guardK_congr condK_congr runT_congr runD_congr wpI_congr CallV_congr LoopI_congr pureK_congr effK_congr calK_congr stepV_congr doV_congr exN_congr exB_congr retF_congr retQ_congr gK_congr condW_congr ldK_congr stoK_congr
attribute [local go_sem] argL_cons argL_nil argH_nil argH_cons chH_getH wpI_seq wpI_reg wpI_drw wpI_ret cond_k condW_t condW_f wpI_skip wpI_block wpI_exit wpI_loop exN_n exN_r exN_e exB_n exB_r exB_h exB_m runT_k kT_e runT_nil runD_k kD_e runD_nil step_u step_k gK_t gK_f do_mv do_bino bo_add bo_sub bo_mul bo_subu bo_quo bo_rem bo_xor bo_eql bo_neq bo_lss bo_leq bo_gtr bo_geq bo_cat bo_eqs bo_nes do_pick do_call do_cal calK_f do_box do_alloc do_ldk ldK_s do_stok stoK_s do_fad do_nilc do_not do_neg do_len do_lens do_ext do_eqs do_beq do_isn do_cvi do_sls do_idx do_mn do_mx do_build do_mkf do_s2b do_b2s do_slv do_iad do_bsl do_mks do_app ev_t ev_c app_some app_none
attribute [local go_sem] List.nil_append List.cons_append List.append_nil getL_hit getL_miss getH_nil getH_hit getH_miss nm_eq ne_eq Nat.reduceEqDiff not_false_eq_true Nat.reduceAdd Nat.add_zero Nat.zero_add if_true if_false ite_true ite_false pureK_s effK_s optK_s gdV_t gdV_f gdV_s pick_b ge_iff_le gt_iff_lt cond_true cond_false fresh_k cells_agg cells_int cells_bool cells_str cells_own cells_sl cells_nils ld_pv ld_pa ld_ip ldVar_t ldVar_f ldArr_t ldArr_f ldRow_t ldRow_f ldA_s ld1_s fad_pv fad_pa fad_ip nilc_pv nilc_pa nilc_ip not_b neg_i cvi_i ext_t retF_n retF_r
attribute [local go_sem] resV_k rvs_nil rvs_t rvs_c fstO_s consO_s resK_s resL_1 resL_2 resL_3 resL_4  Option.some.injEq List.map_cons List.map_nil List.all_cons List.all_nil Bool.and_true Bool.and_self Bool.not_true Bool.not_false Option.map_some Option.map_none sls_s slsG_s loV_n loV_i hiV_n hiV_i idx_s mn_i mx_i s2b_s b2s_s bytO_s bytes_nil bytes_cons conB_s slv_sl slv_own slv_nils slvG_s slvN_s slvO_s iad_sl iadG_map take_map drop_map List.length_map iad_own iad_view iadO_a iadW_a mks_i rowO_nils rowO_sl rowO_own rowA_a eq_self appG_nils appG_own appO_a guardP_T mapA_s bld_nil mkf_nil bldF_e fill_nil fill_cons mkf_e lens_s len_nils len_sl len_own len_view isn_nile isn_erre List.getElem?_cons_zero List.getElem?_cons_succ List.length_cons List.length_nil decide_true decide_false Int.toNat_natCast Int.cast_ofNat_Int Int.reduceLT Int.reduceLE Int.reduceEq Int.reduceAdd Int.reduceSub Int.reduceMul Int.reduceNeg Int.reduceToNat List.getD_cons_zero List.getD_cons_succ not_true_eq_false not_false_eq_true Bool.false_eq_true Bool.true_eq_false reduceCtorEq
attribute [local go_sem] E.row Pc.row Pair.row Part.row Strm.row Flw.row Pk.row Door.row Conv.row World.row Ev.row rdV E.eta Pc.eta Pair.eta Part.eta Strm.eta Pk.eta Flw.eta Conv.eta Door.eta World.eta Ev.eta
attribute [local go_sem] sub_ok st_pv st_pa stVar_v stArr_a Nat.le_refl List.drop_zero List.drop_succ_cons List.take_succ_cons List.take_zero setR Nat.reduceLeDiff
attribute [local go_sem] wk_bot wk2_bot wk1_bot wk_undef wk_tup_e wk2_agg_e wk_agg_e wk1_fn_e wk2_fn_e wk_fn_e wkl_nil wkl_cons wkh_var_e wkh_arr_e wkh_fresh_e wkh_dead_v wkh_dead_a wkh_dead_d wk0_undef wk0_int wk0_bool wk0_str wk0_nils wk0_nils_sl wk0_nilp wk0_nile wk0_erre wk0_sl wk0_iptr wk0_own wk0_view wk0_pv wk0_pa fzA_a fzW_a fzP_v wk0_own_sl wk0_view_sl wk0_pv_iptr WkS_nil WkS_cons WkN_nil WkN_cons nonB_nil nonB_cons getN_nil getN_hit getN_miss pinOk_0 pinOk_s and_true true_and and_self
attribute [local go_sem] bot_int one_int unt_int clo_int bot_bool one_bool unt_bool clo_bool bot_str one_str unt_str clo_str bot_nils one_nils unt_nils clo_nils bot_nilp one_nilp unt_nilp clo_nilp bot_nile one_nile unt_nile clo_nile bot_erre one_erre unt_erre clo_erre bot_raw one_raw unt_raw clo_raw bot_sl one_sl unt_sl clo_sl bot_own one_own unt_own clo_own bot_view one_view unt_view clo_view bot_pv one_pv unt_pv clo_pv bot_pa one_pa unt_pa clo_pa bot_iptr one_iptr unt_iptr clo_iptr unt_agg unt_fn one_fn
attribute [local go_sem] rn_tup rn_agg rn2_agg rn_fn rn2_fn rnfn1 rn_bot rn2_bot rn1_bot rn0_int rn0_bool rn0_str rn0_nils rn0_nilp rn0_nile rn0_erre rn0_sl rn0_iptr rn0_own rn0_view rn0_pv rn0_pa hrn_var hrn_arr hrn_dead outU_nil outU_cons deads_nil deads_cons bk_ge bk_lt nsF_0 nsF_s chH_0 chH_s chH_n newN_e andB_s eqR_nil eqR_i eqR_b eqR_s mapX_f mapX_t eqs_a beq_f beq_t live_arr live_var nsl_nil nsl_cons Nat.reduceMul Nat.reduceLT Nat.zero_le Nat.not_lt_zero
attribute [local go_sem] mV lD lA fD bN eX oP nP sR i0 s0
def ic22:IC:=sR [oP 2 (.box 26 (.t 0)),oP 3 (.box 30 (.t 1)),oP 4 (.alloc 26 [.nils,.nils]),oP 5 (.alloc 30 [i0,i0,i0,i0,i0,i0,s0]),oP 6 (.mv (.c (.bool false)))] (.seq (sR [lA 7 2 2,oP 8 (.call 24 [.t 7]),oP 9 (.un .not (.t 8)),mV 10 9,⟨some 11,some (10,false),.ld 7 true (.t 3)⟩,⟨some 12,some (10,false),.call 25 [.t 11]⟩,⟨some 13,some (10,false),.un .not (.t 12)⟩,oP 14 (.pick (.t 10) (.c (.bool true)) (.t 13)),mV 15 14,⟨some 16,some (15,false),.fad 1 (.t 3)⟩,⟨some 17,some (15,false),.ld 2 true (.t 16)⟩,⟨some 18,some (15,false),.call 26 [.t 17]⟩,⟨some 19,some (15,false),.un .not (.t 18)⟩,oP 20 (.pick (.t 15) (.c (.bool true)) (.t 19)),mV 21 20,⟨some 22,some (21,false),.fad 3 (.t 3)⟩,⟨some 23,some (21,false),.ld 2 true (.t 22)⟩,⟨some 24,some (21,false),.call 27 [.t 23]⟩,⟨some 25,some (21,false),.un .not (.t 24)⟩,oP 26 (.pick (.t 21) (.c (.bool true)) (.t 25))] (.cond (.t 26) (sR [oP 27 (.build [.nils,.nils] []),oP 28 (.build [i0,i0,i0,i0,i0,i0,s0] []),nP (.sto 2 (.t 4) (.t 27)),nP (.sto 7 (.t 5) (.t 28)),oP 6 (.mv (.c (.bool false)))] .ret) .skip)) (.seq (.drw [0,1,0,7,15,15,15,127,255,511] [(0,lA 29 2 2),(1,oP 30 (.call 52 [.t 29])),(2,lA 31 7 3),(3,oP 32 (.call 61 [.t 30,.t 31])),(4,eX 33 32 0),(5,eX 34 32 1),(6,eX 35 32 2),(7,nP (.sto 2 (.t 4) (.t 33))),(8,nP (.sto 7 (.t 5) (.t 34))),(9,mV 6 35)]) .ret))
theorem dg22:Dg Tryz.prog 22 Tryz.f22 ic22 [(.cell 4 2 true),(.cell 5 7 true),(.t 6)]:=⟨Tryz.func22,by kernel_rfl,by kernel_rfl⟩
theorem c22 (d:Door) (p:Pk) (hb:DB d) (hl:doorOk d=true→d.flows.length≤3) (ht:p.text.length≤2000000):FnR Tryz.prog G 22 [.agg [.sl 3 (d.map.map Pair.row),.sl 8 (d.flows.map Flw.row)],.agg [.int .i64 p.kind,.int .i64 p.frm.a,.int .i64 p.frm.p,.int .i64 p.to.a,.int .i64 p.to.p,.int .i64 p.at_,.str p.text]]
    (.tup [.agg [.sl 3 ((doorIn d p).1.map.map Pair.row),.sl 8 ((doorIn d p).1.flows.map Flw.row)],.agg (Pk.row ((doorIn d p).2.getD .zero)),.bool (doorIn d p).2.isSome]):=by
  refine mF dg22 Tryz.ntmps22 ?_
  simp only [ic22,go_sem]
  have c1:=c24 d hb
  have c2:=c25 p ht
  with_reducible repeat' (first|refine br ?_ ?_<;>intro h e<;>(try simp only [e,go_sem])<;>clear e|rw [i64w (by omega)]|refine sd ?_<;>try simp only [go_sem]|(first|refine cr (c1 ..) ?_|refine cr (c2 ..) ?_|refine cr (c26 ..) ?_|refine cr (c27 ..) ?_)<;>try simp only [go_sem]|fail)
  all_goals first
    | (have hx:doorIn d p=(.zero,none):=by simp_all [doorIn,Pk.inward]
       rw [hx];simp [Door.zero,Pk.zero,E.zero];done)
    | skip
  have hd:doorOk d=true:=by simp_all
  have hpk:pkOk p=true:=by simp_all
  have hfi:p.to.door=true:=by simp_all
  have hx:doorIn d p=dIn d p:=by simp_all [doorIn,Pk.inward]
  rw [hx]
  refine callO (c52 (d.map.map Pair.row) d.flows (by simp;exact hb.1) (by have:=hl hd;omega) (copyB hd)) [] 30 2 (by simp only [go_sem];first|done|simp) (by simp) (by rintro _ _ ⟨rfl,rfl⟩;simp) (by intro i hi;rcases (show i=0∨i=1 by omega) with rfl|rfl<;>simp only [go_sem]) ?_
  rintro _ _ ⟨rfl,rfl⟩
  simp only [go_sem]
  with_reducible repeat' (first|refine br ?_ ?_<;>intro h e<;>(try simp only [e,go_sem])<;>clear e|rw [i64w (by omega)]|refine sd ?_<;>try simp only [go_sem]|fail)
  refine callU (c61 d p hd (pkOk_P hpk) hfi) [103000,103001] [] 32 2 (by simp only [go_sem];first|done|simp) (by simp only [go_sem];first|done|simp) (by simp) (by simp) (by rintro _ _ ⟨rfl,rfl⟩;simp) (by intro i hi;rcases (show i=0∨i=1 by omega) with rfl|rfl<;>simp only [go_sem]) ?_
  rintro _ _ ⟨rfl,rfl⟩
  simp only [go_sem]
  with_reducible repeat' (first|refine br ?_ ?_<;>intro h e<;>(try simp only [e,go_sem])<;>clear e|rw [i64w (by omega)]|refine sd ?_<;>try simp only [go_sem]|fail)
def ic38:IC:=sR [oP 2 (.box 26 (.t 0)),oP 3 (.box 30 (.t 1)),oP 4 (.alloc 26 [.nils,.nils]),oP 5 (.alloc 30 [i0,i0,i0,i0,i0,i0,s0]),oP 6 (.mv (.c (.bool false)))] (.seq (sR [lA 7 2 2,oP 8 (.call 24 [.t 7]),oP 9 (.un .not (.t 8)),mV 10 9,⟨some 11,some (10,false),.ld 7 true (.t 3)⟩,⟨some 12,some (10,false),.call 25 [.t 11]⟩,⟨some 13,some (10,false),.un .not (.t 12)⟩,oP 14 (.pick (.t 10) (.c (.bool true)) (.t 13))] (.cond (.t 14) (sR [oP 15 (.build [.nils,.nils] []),oP 16 (.build [i0,i0,i0,i0,i0,i0,s0] []),nP (.sto 2 (.t 4) (.t 15)),nP (.sto 7 (.t 5) (.t 16)),oP 6 (.mv (.c (.bool false)))] .ret) .skip)) (.seq (.drw [0,1,0,7,15,15,15,127,255,511] [(0,lA 17 2 2),(1,oP 18 (.call 52 [.t 17])),(2,lA 19 7 3),(3,oP 20 (.call 78 [.t 18,.t 19])),(4,eX 21 20 0),(5,eX 22 20 1),(6,eX 23 20 2),(7,nP (.sto 2 (.t 4) (.t 21))),(8,nP (.sto 7 (.t 5) (.t 22))),(9,mV 6 23)]) .ret))
theorem dg38:Dg Tryz.prog 38 Tryz.f38 ic38 [(.cell 4 2 true),(.cell 5 7 true),(.t 6)]:=⟨Tryz.func38,by kernel_rfl,by kernel_rfl⟩
theorem c38 (d:Door) (p:Pk) (hb:DB d) (hl:doorOk d=true→d.flows.length≤3) (ht:p.text.length≤2000000):FnR Tryz.prog G 38 [.agg [.sl 3 (d.map.map Pair.row),.sl 8 (d.flows.map Flw.row)],.agg [.int .i64 p.kind,.int .i64 p.frm.a,.int .i64 p.frm.p,.int .i64 p.to.a,.int .i64 p.to.p,.int .i64 p.at_,.str p.text]]
    (.tup [.agg [.sl 3 ((doorPass d p).1.map.map Pair.row),.sl 8 ((doorPass d p).1.flows.map Flw.row)],.agg (Pk.row ((doorPass d p).2.getD .zero)),.bool (doorPass d p).2.isSome]):=by
  refine mF dg38 Tryz.ntmps38 ?_
  simp only [ic38,go_sem]
  have c1:=c24 d hb
  have c2:=c25 p ht
  with_reducible repeat' (first|refine br ?_ ?_<;>intro h e<;>(try simp only [e,go_sem])<;>clear e|rw [i64w (by omega)]|refine sd ?_<;>try simp only [go_sem]|(first|refine cr (c1 ..) ?_|refine cr (c2 ..) ?_)<;>try simp only [go_sem]|fail)
  all_goals first
    | (have hx:doorPass d p=(.zero,none):=by simp_all [doorPass]
       rw [hx];simp [Door.zero,Pk.zero,E.zero];done)
    | skip
  have hd:doorOk d=true:=by simp_all
  have hpk:pkOk p=true:=by simp_all
  have hx:doorPass d p=dPass d p:=by simp_all [doorPass]
  rw [hx]
  refine callO (c52 (d.map.map Pair.row) d.flows (by simp;exact hb.1) (by have:=hl hd;omega) (copyB hd)) [] 18 2 (by simp only [go_sem];first|done|simp) (by simp) (by rintro _ _ ⟨rfl,rfl⟩;simp) (by intro i hi;rcases (show i=0∨i=1 by omega) with rfl|rfl<;>simp only [go_sem]) ?_
  rintro _ _ ⟨rfl,rfl⟩
  simp only [go_sem]
  with_reducible repeat' (first|refine br ?_ ?_<;>intro h e<;>(try simp only [e,go_sem])<;>clear e|rw [i64w (by omega)]|refine sd ?_<;>try simp only [go_sem]|fail)
  refine callU (c78 d p hd (hl hd) (pkOk_P hpk)) [101800,101801] [] 20 2 (by simp only [go_sem];first|done|simp) (by simp only [go_sem];first|done|simp) (by simp) (by simp) (by rintro _ _ ⟨rfl,rfl⟩;simp) (by intro i hi;rcases (show i=0∨i=1 by omega) with rfl|rfl<;>simp only [go_sem]) ?_
  rintro _ _ ⟨rfl,rfl⟩
  simp only [go_sem]
  with_reducible repeat' (first|refine br ?_ ?_<;>intro h e<;>(try simp only [e,go_sem])<;>clear e|rw [i64w (by omega)]|refine sd ?_<;>try simp only [go_sem]|fail)
theorem dtt:(true == true)=true:=rfl
theorem dff:(false == false)=true:=rfl
theorem tmod_n (a b:Nat):((a:Int)).tmod (b:Int)=((a % b:Nat):Int):=(Int.ofNat_tmod a b).symm
theorem ok_db {x:Door} (h:doorOk x=true):DB x:=by
  obtain ⟨hdm,hdf,_⟩:=doorOk_iff.1 h
  have hm:=(mapOk_ports hdm).2
  refine ⟨by omega,by omega,fun f hf=>?_⟩
  obtain ⟨k,hk⟩:=List.mem_iff_getElem?.1 hf
  obtain ⟨_,_,h1,h2,_⟩:=flow_at h hk
  exact ⟨(strmOk_B h1).sb,(strmOk_B h2).sb⟩
theorem zero_db:DB .zero:=⟨by simp [Door.zero],by simp [Door.zero],fun f hf=>by cases hf⟩
theorem l19 (d:Door) (h:DB d):FnR Tryz.prog G 19 [.agg [.sl 3 (d.map.map Pair.row),.sl 8 (d.flows.map Flw.row)],.agg [.sl 3 (d.map.map Pair.row),.sl 8 (d.flows.map Flw.row)]] (.bool true):=c19 d h.1 h.2.1 fun f hf=>⟨(h.2.2 f hf).1.2.1,(h.2.2 f hf).2.2.1⟩
theorem doorOut_db (d:Door) (p:Pk):DB (doorOut d p).1:=by
  unfold doorOut
  split
  · rename_i h
    simp only [Bool.and_eq_true] at h
    exact ok_db (dOut_ok h.1.1 (pkOk_P h.1.2) h.2).1
  · exact zero_db
theorem doorIn_db (d:Door) (p:Pk):DB (doorIn d p).1:=by
  unfold doorIn
  split
  · rename_i h
    simp only [Bool.and_eq_true] at h
    exact ok_db (dIn_ok h.1.1 (pkOk_P h.1.2)).1
  · exact zero_db
theorem doorPass_db (d:Door) (p:Pk):DB (doorPass d p).1:=by
  unfold doorPass
  split
  · rename_i h
    simp only [Bool.and_eq_true] at h
    exact ok_db (dPass_ok h.1 (pkOk_P h.2)).1
  · exact zero_db
theorem doorOut_yes {d:Door} {p r:Pk} (h:(doorOut d p).2=some r):doorOk d=true∧pkOk p=true∧p.outward=true∧doorOk (doorOut d p).1=true∧dOut d p=((doorOut d p).1,some r):=by
  unfold doorOut at h ⊢
  split at h
  · rename_i g
    rw [if_pos g]
    simp only [Bool.and_eq_true] at g
    exact ⟨g.1.1,g.1.2,g.2,(dOut_ok g.1.1 (pkOk_P g.1.2) g.2).1,Prod.ext rfl h⟩
  · cases h
theorem doorIn_yes {d:Door} {p r:Pk} (h:(doorIn d p).2=some r):doorOk d=true∧pkOk p=true∧p.inward=true∧doorOk (doorIn d p).1=true∧dIn d p=((doorIn d p).1,some r):=by
  unfold doorIn at h ⊢
  split at h
  · rename_i g
    rw [if_pos g]
    simp only [Bool.and_eq_true] at g
    exact ⟨g.1.1,g.1.2,g.2,(dIn_ok g.1.1 (pkOk_P g.1.2)).1,Prod.ext rfl h⟩
  · cases h
theorem doorPass_yes {d:Door} {p r:Pk} (h:(doorPass d p).2=some r):doorOk d=true∧pkOk p=true∧doorOk (doorPass d p).1=true∧dPass d p=((doorPass d p).1,some r):=by
  unfold doorPass at h ⊢
  split at h
  · rename_i g
    rw [if_pos g]
    simp only [Bool.and_eq_true] at g
    exact ⟨g.1,g.2,(dPass_ok g.1 (pkOk_P g.2)).1,Prod.ext rfl h⟩
  · cases h
theorem names_lenD (t:B):(textNames t).length≤t.length:=by
  unfold textNames textPieces namesOf
  rw [List.length_map]
  refine Nat.le_trans (List.length_filter_le _ _) ?_
  split
  · exact pieces_len t
  · simp
end Go.Proofs.YtfepdcpidkjklaaGreatDoor.W
