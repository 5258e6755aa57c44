/- Part 5 of the proof: the walk over values, the plain model, contracts of the functions of the program. -/
import Derived.Test.YtblndjmhjaijjaaGreatDoorX04
import Derived.Test.YtblndjmhjaijjaaGreatDoorX02
import Derived.Test.YtblndjmhjaijjaaGreatDoorX03
set_option linter.all false
namespace Go.Proofs.YtblndjmhjaijjaaGreatDoor.W
open Go Go.RowKit Go.Proofs Go.Proofs.YtblndjmhjaijjaaGreatDoor.VL Go.Proofs.YtblndjmhjaijjaaGreatDoor.M
attribute [local congr] optK_congr guardK_congr condK_congr runT_congr runD_congr wpI_congr CallV_congr LoopI_congr pureK_congr effK_congr calK_congr stepV_congr doV_congr exN_congr exB_congr retF_congr retQ_congr gK_congr condW_congr ldK_congr stoK_congr
attribute [local go_sem] argL_cons argL_nil argH_nil argH_cons chH_getH wpI_seq wpI_reg wpI_drw wpI_ret cond_k condW_t condW_f wpI_skip wpI_block wpI_exit wpI_loop exN_n exN_r exN_e exB_n exB_r exB_h exB_m runT_k kT_e runT_nil runD_k kD_e runD_nil step_u step_k gK_t gK_f do_mv do_bino bo_add bo_sub bo_mul bo_subu bo_quo bo_rem bo_xor bo_eql bo_neq bo_lss bo_leq bo_gtr bo_geq bo_cat bo_eqs bo_nes do_pick do_call do_cal calK_f do_box do_alloc do_ldk ldK_s do_stok stoK_s do_fad do_nilc do_not do_neg do_len do_lens do_ext do_eqs do_beq do_isn do_cvi do_sls do_idx do_mn do_mx do_build do_mkf do_s2b do_b2s do_slv do_iad do_bsl do_mks do_app ev_t ev_c app_some app_none
attribute [local go_sem] List.nil_append List.cons_append List.append_nil getL_hit getL_miss getH_nil getH_hit getH_miss nm_eq ne_eq Nat.reduceEqDiff not_false_eq_true Nat.reduceAdd Nat.add_zero Nat.zero_add if_true if_false ite_true ite_false pureK_s effK_s optK_s gdV_t gdV_f gdV_s pick_b ge_iff_le gt_iff_lt cond_true cond_false fresh_k cells_agg cells_int cells_bool cells_str cells_own cells_sl cells_nils ld_pv ld_pa ld_ip ldVar_t ldVar_f ldArr_t ldArr_f ldRow_t ldRow_f ldA_s ld1_s fad_pv fad_pa fad_ip nilc_pv nilc_pa nilc_ip not_b neg_i cvi_i ext_t retF_n retF_r
attribute [local go_sem] resV_k rvs_nil rvs_t rvs_c fstO_s consO_s resK_s resL_1 resL_2 resL_3 resL_4  Option.some.injEq List.map_cons List.map_nil List.all_cons List.all_nil Bool.and_true Bool.and_self Bool.not_true Bool.not_false Option.map_some Option.map_none sls_s slsG_s loV_n loV_i hiV_n hiV_i idx_s mn_i mx_i s2b_s b2s_s bytO_s bytes_nil bytes_cons conB_s slv_sl slv_own slv_nils slvG_s slvN_s slvO_s iad_sl iadG_map take_map drop_map List.length_map iad_own iad_view iadO_a iadW_a mks_i rowO_nils rowO_sl rowO_own rowA_a eq_self appG_nils appG_own appO_a guardP_T mapA_s bld_nil mkf_nil bldF_e fill_nil fill_cons mkf_e lens_s len_nils len_sl len_own len_view isn_nile isn_erre List.getElem?_cons_zero List.getElem?_cons_succ List.length_cons List.length_nil decide_true decide_false Int.toNat_natCast Int.cast_ofNat_Int Int.reduceLT Int.reduceLE Int.reduceEq Int.reduceAdd Int.reduceSub Int.reduceMul Int.reduceNeg Int.reduceToNat List.getD_cons_zero List.getD_cons_succ not_true_eq_false not_false_eq_true Bool.false_eq_true Bool.true_eq_false reduceCtorEq
attribute [local go_sem] E.row Pc.row Pair.row Part.row Strm.row Flw.row Pk.row Door.row Conv.row World.row Ev.row rdV E.eta Pc.eta Pair.eta Part.eta Strm.eta Pk.eta Flw.eta Conv.eta Door.eta World.eta Ev.eta
attribute [local go_sem] sub_ok st_pv st_pa stVar_v stArr_a Nat.le_refl List.drop_zero List.drop_succ_cons List.take_succ_cons List.take_zero setR Nat.reduceLeDiff
attribute [local go_sem] wk_bot wk2_bot wk1_bot wk_undef wk_tup_e wk2_agg_e wk_agg_e wk1_fn_e wk2_fn_e wk_fn_e wkl_nil wkl_cons wkh_var_e wkh_arr_e wkh_fresh_e wkh_dead_v wkh_dead_a wkh_dead_d wk0_undef wk0_int wk0_bool wk0_str wk0_nils wk0_nils_sl wk0_nilp wk0_nile wk0_erre wk0_sl wk0_iptr wk0_own wk0_view wk0_pv wk0_pa fzA_a fzW_a fzP_v wk0_own_sl wk0_view_sl wk0_pv_iptr WkS_nil WkS_cons WkN_nil WkN_cons nonB_nil nonB_cons getN_nil getN_hit getN_miss pinOk_0 pinOk_s and_true true_and and_self
attribute [local go_sem] bot_int one_int unt_int clo_int bot_bool one_bool unt_bool clo_bool bot_str one_str unt_str clo_str bot_nils one_nils unt_nils clo_nils bot_nilp one_nilp unt_nilp clo_nilp bot_nile one_nile unt_nile clo_nile bot_erre one_erre unt_erre clo_erre bot_raw one_raw unt_raw clo_raw bot_sl one_sl unt_sl clo_sl bot_own one_own unt_own clo_own bot_view one_view unt_view clo_view bot_pv one_pv unt_pv clo_pv bot_pa one_pa unt_pa clo_pa bot_iptr one_iptr unt_iptr clo_iptr unt_agg unt_fn one_fn
attribute [local go_sem] rn_tup rn_agg rn2_agg rn_fn rn2_fn rnfn1 rn_bot rn2_bot rn1_bot rn0_int rn0_bool rn0_str rn0_nils rn0_nilp rn0_nile rn0_erre rn0_sl rn0_iptr rn0_own rn0_view rn0_pv rn0_pa hrn_var hrn_arr hrn_dead outU_nil outU_cons deads_nil deads_cons bk_ge bk_lt nsF_0 nsF_s chH_0 chH_s chH_n newN_e andB_s eqR_nil eqR_i eqR_b eqR_s mapX_f mapX_t eqs_a beq_f beq_t live_arr live_var nsl_nil nsl_cons Nat.reduceMul Nat.reduceLT Nat.zero_le Nat.not_lt_zero
attribute [local go_sem] mV lD lA fD bN eX oP nP sR i0 s0
def ic76 : IC := sR [oP 4 (.alloc 40 [i0,i0,i0,i0,i0,i0,s0])] (sR [mV 6 0,oP 7 (.nilc (.t 6)),fD 8 3 7,lD 9 1 8,mV 10 1,oP 11 (.iad 7 (.t 9) (.t 10)),lA 12 7 11,oP 5 (.alloc 40 [i0,i0,i0,i0,i0,i0,s0]),nP (.sto 7 (.t 5) (.t 12))] (sR [mV 13 0,mV 14 0,oP 15 (.nilc (.t 14)),fD 16 3 15,lD 17 1 16,mV 18 1,mV 19 1,oP 20 (.bin .add (.t 19) (.c (.int .i64 1))),oP 21 (.call 148 [.t 17,.t 18,.t 20]),oP 22 (.nilc (.t 13)),fD 23 3 22,nP (.sto 1 (.t 23) (.t 21))] (sR [lA 24 7 5,nP (.sto 7 (.t 4) (.t 24))] .ret)))
theorem dg76 : digF Tryz.prog Tryz.f76 = some (ic76,[(.cell 4 7 true)]) := by kernel_rfl
theorem en76 : entr Tryz.prog 76 = true := by kernel_rfl
theorem c76 (w : M.World) (k : Nat) (hk : k < w.nets.length) (hn : w.nets.length ≤ 2000000) : FnP Tryz.prog G 76 1 [.var 33 [.own 2 w.convs.length,.sl 3 (w.door.map.map Pair.row),.own 1 w.door.flows.length,.own 3 w.nets.length],.arr 91 8 (w.door.flows.map Flw.row),.arr 42 10 (w.convs.map Conv.row),.arr 40 7 (w.nets.map Pk.row)] [.pv 0 0,.int .i64 (k : Int)] (fun r o => r = .agg (Pk.row (w.nets.getD k default)) ∧ ∃ v,v = { w with nets := w.nets.eraseIdx k } ∧ o = [.var 33 [.own 2 v.convs.length,.sl 3 (v.door.map.map Pair.row),.own 1 v.door.flows.length,.own 3 v.nets.length],.arr 91 8 (v.door.flows.map Flw.row),.arr 42 10 (v.convs.map Conv.row),.arr 40 7 (v.nets.map Pk.row)]) := by
  refine FnP.mk' Tryz.func76 en76 dg76 Tryz.ntmps76 (by simp) ⟨_,_,rfl,_,rfl,rfl⟩ ?_
  have hlen : (w.nets.eraseIdx k).length = w.nets.length - 1 := by rw [List.length_eraseIdx,if_pos hk]
  generalize hp : w.nets.getD k default = p at *
  simp only [ic76,go_sem]
  with_reducible repeat' (first | rw [i64w (by omega)]; try simp only [go_sem,getD_mp hk,hp] | refine br ?_ ?_ <;> intro h e <;> (try simp only [e,go_sem,getD_mp hk,hp]) <;> clear e | (first | refine sk ?_ | refine sd ?_) <;> try simp only [go_sem,getD_mp hk,hp] | fail)
  refine callU (o148 w.nets k hk) [3] [] 21 1 (by simp only [go_sem]; first | done | simp) (by simp only [go_sem]; first | done | simp) (by simp) (by simp) (by rintro _ _ ⟨rfl,rfl⟩; simp) (by intro i hi; obtain rfl : i = 0 := (by omega); simp only [go_sem]) ?_
  rintro _ _ ⟨rfl,rfl⟩
  simp only [go_sem]
  with_reducible repeat' (first | refine br ?_ ?_ <;> intro h e <;> (try simp only [e,go_sem]) <;> clear e | rw [i64w (by omega)] | (first | refine sk ?_ | refine sd ?_) <;> try simp only [go_sem] | fail)
  refine retN (.agg (Pk.row p)) [.var 33 [.own 2 ({ w with nets := w.nets.eraseIdx k } : M.World).convs.length,.sl 3 (({ w with nets := w.nets.eraseIdx k } : M.World).door.map.map Pair.row),.own 1 ({ w with nets := w.nets.eraseIdx k } : M.World).door.flows.length,.own 3 ({ w with nets := w.nets.eraseIdx k } : M.World).nets.length],.arr 91 8 (({ w with nets := w.nets.eraseIdx k } : M.World).door.flows.map Flw.row),.arr 42 10 (({ w with nets := w.nets.eraseIdx k } : M.World).convs.map Conv.row),.arr 40 7 (({ w with nets := w.nets.eraseIdx k } : M.World).nets.map Pk.row)] [(3,102100)] ?_ ⟨rfl,_,rfl,rfl⟩ ?_ (by simp [argH,getN]) (by simp only [go_sem])
  · simp only [go_sem]
  · simp only [go_sem,hlen]
def strC (p : Pk) (c : Conv) : Bool := decide (c.out = p.frm)
def ic78 : IC := sR [oP 2 (.box 42 (.t 0)),oP 3 (.mv (.c (.bool false)))] (sR [fD 4 2 2,lA 5 2 4,fD 6 4 1,fD 7 1 6,lA 8 2 7,oP 9 (.eqs false [.i,.i] (.t 5) (.t 8)),mV 3 9] .ret)
theorem dg78 : digF Tryz.prog Tryz.f78 = some (ic78,[(.t 3)]) := by kernel_rfl
theorem en78 : entr Tryz.prog 78 = true := by kernel_rfl
theorem c78 (c : Conv) (e : Ev) : FnR Tryz.prog G 78 [.agg [.int .i64 c.ins.a,.int .i64 c.ins.p,.int .i64 c.out.a,.int .i64 c.out.p,.str c.up,.str c.down,.int .i64 c.upAck,.int .i64 c.downAck,.str c.upGot,.str c.downGot],.iptr [.int .i64 e.kind,.int .i64 e.a,.int .i64 e.b,.int .i64 e.c,.int .i64 e.pkt.kind,.int .i64 e.pkt.frm.a,.int .i64 e.pkt.frm.p,.int .i64 e.pkt.to.a,.int .i64 e.pkt.to.p,.int .i64 e.pkt.at_,.str e.pkt.text] 0] (.bool (strC e.pkt c)) := by
  refine FnR.mkF Tryz.func78 en78 dg78 Tryz.ntmps78 (by simp) ?_
  simp only [ic78,go_sem,E.ext_iff']
  all_goals simp_all [strC]
theorem c149D (l : List Conv) (e : Ev) (hl : l.length ≤ 2000000) : FnR Tryz.prog G 149 [.sl 10 (l.map Conv.row),.fn 78 [.iptr [.int .i64 e.kind,.int .i64 e.a,.int .i64 e.b,.int .i64 e.c,.int .i64 e.pkt.kind,.int .i64 e.pkt.frm.a,.int .i64 e.pkt.frm.p,.int .i64 e.pkt.to.a,.int .i64 e.pkt.to.p,.int .i64 e.pkt.at_,.str e.pkt.text] 0]] (.int .i64 (ixI (l.findIdx? (strC e.pkt)))) := by
  refine FnR.mkF Tryz.func149 en149 dg149 Tryz.ntmps149 (by simp) ?_
  simp only [ic149,go_sem]
  refine loopN (fun k : Nat => ⟨getL [(0,.sl 10 (l.map Conv.row)),(1,.fn 78 [.iptr [.int .i64 e.kind,.int .i64 e.a,.int .i64 e.b,.int .i64 e.c,.int .i64 e.pkt.kind,.int .i64 e.pkt.frm.a,.int .i64 e.pkt.frm.p,.int .i64 e.pkt.to.a,.int .i64 e.pkt.to.p,.int .i64 e.pkt.at_,.str e.pkt.text] 0]),(7,.int .i64 l.length),(8,.int .i64 (k : Int))],getH []⟩) (fun k => l.length - k)
    (fun k => k ≤ l.length ∧ (l.take k).any (strC e.pkt) = false) 0 (leQ []) ⟨Nat.zero_le _,by simp⟩ ?_
  intro k ⟨hk,ha⟩
  simp only [go_sem]
  by_cases h : (k : Int) < l.length
  · have hil : k < l.length := by omega
    have hg : l.getD k default = l[k] := by simp [List.getD,hil]
    have hy := findIdx_yes hil ha
    have hs := any_step hil ha
    simp only [eq_true h,go_sem]
    refine effG (by omega) ?_
    simp only [hg,go_sem]
    refine callR (c78 l[k] e) rfl rfl ?_
    simp only [go_sem]
    with_reducible repeat' (first | refine br ?_ ?_ <;> intro h e <;> (try simp only [e,go_sem]) <;> clear e | rw [i64w (by omega)] | (first | refine sk ?_ | refine sd ?_) <;> try simp only [go_sem] | fail)
    · rw [hy (by assumption)]; rfl
    · exact ⟨k + 1,by omega,⟨by omega,hs (by assumption)⟩,(leQ [])⟩
  · simp only [eq_false h,go_sem]
    have : k = l.length := by omega
    subst this
    rw [List.take_length] at ha
    rw [findIdx_no ha]; rfl
theorem c77D (l : List Conv) (e : Ev) (hl : l.length ≤ 2000000) : FnR Tryz.prog G 77 [.sl 10 (l.map Conv.row),.fn 78 [.iptr [.int .i64 e.kind,.int .i64 e.a,.int .i64 e.b,.int .i64 e.c,.int .i64 e.pkt.kind,.int .i64 e.pkt.frm.a,.int .i64 e.pkt.frm.p,.int .i64 e.pkt.to.a,.int .i64 e.pkt.to.p,.int .i64 e.pkt.at_,.str e.pkt.text] 0]] (.bool (l.any (strC e.pkt))) := by
  refine FnR.mkF Tryz.func77 en77 dg77 Tryz.ntmps77 (by simp) ?_
  simp only [ic77,go_sem]
  refine callR (c149D l e hl) rfl rfl ?_
  simp only [go_sem,ixI_any]
theorem stranger_e (w : M.World) (p : Pk) : stranger w p = (pkOk p && p.inward && !w.convs.any (strC p)) := rfl
def ic32 : IC := sR [oP 3 (.box 46 (.t 1))] (.seq (.drw [0,1,0,4,12,28,60,124,255,0,512,0,2048,6144,14336,30720,63488,131071,262143,524287] [(0,fD 7 1 3),(1,lD 8 1 7),(2,mV 9 0),(3,oP 10 (.nilc (.t 9))),(4,fD 11 0 10),(5,lD 12 1 11),(6,oP 13 (.len (.t 12))),(7,oP 14 (.bin .sub (.t 13) (.c (.int .i64 1)))),(8,oP 15 (.call 36 [.t 8,.c i0,.t 14])),(9,fD 16 1 3),(10,lD 17 1 16),(11,mV 18 0),(12,oP 19 (.nilc (.t 18))),(13,fD 20 3 19),(14,lD 21 1 20),(15,oP 22 (.len (.t 21))),(16,oP 23 (.bin .sub (.t 22) (.c (.int .i64 1)))),(17,oP 24 (.call 36 [.t 17,.c i0,.t 23])),(18,mV 4 15),(19,mV 5 24)]) (.block 0 (sR [fD 26 0 3,lD 27 1 26,oP 28 (.bin .eql (.t 27) (.c (.int .i64 1))),mV 29 28,⟨some 30,some (29,true),.mv (.t 4)⟩,oP 31 (.pick (.t 29) (.t 30) (.c (.bool false))),mV 25 31] (.cond (.t 25) (.drw [0,0,2,6,14,0,32,126,254,0,512,0,2048,8190,16382,16382,65535] [(0,mV 32 0),(1,mV 33 0),(2,oP 34 (.nilc (.t 33))),(3,fD 35 0 34),(4,lD 36 1 35),(5,fD 37 1 3),(6,lD 38 1 37),(7,oP 39 (.iad 10 (.t 36) (.t 38))),(8,lA 40 10 39),(9,fD 41 2 3),(10,lD 42 1 41),(11,fD 43 3 3),(12,lD 44 1 43),(13,oP 45 (.call 73 [.t 40,.c (.bool true),.c i0,.t 42,.t 44])),(14,eX 46 45 0),(15,eX 47 45 1),(16,oP 48 (.call 72 [.t 32,.t 46,.t 47]))]) (sR [fD 50 0 3,lD 51 1 50,oP 52 (.bin .eql (.t 51) (.c (.int .i64 2))),mV 53 52,⟨some 54,some (53,true),.mv (.t 4)⟩,oP 55 (.pick (.t 53) (.t 54) (.c (.bool false))),mV 49 55] (.cond (.t 49) (.drw [0,0,2,6,14,0,32,126,254,0,0,1024,3584,0,8192,0,32768,131070,262142,262142,1048575] [(0,mV 56 0),(1,mV 57 0),(2,oP 58 (.nilc (.t 57))),(3,fD 59 0 58),(4,lD 60 1 59),(5,fD 61 1 3),(6,lD 62 1 61),(7,oP 63 (.iad 10 (.t 60) (.t 62))),(8,lA 64 10 63),(9,mV 65 0),(10,fD 66 1 3),(11,lD 67 1 66),(12,oP 68 (.call 74 [.t 65,.t 67])),(13,fD 69 2 3),(14,lD 70 1 69),(15,fD 71 3 3),(16,lD 72 1 71),(17,oP 73 (.call 73 [.t 64,.c (.bool false),.t 68,.t 70,.t 72])),(18,eX 74 73 0),(19,eX 75 73 1),(20,oP 76 (.call 72 [.t 56,.t 74,.t 75]))]) (sR [fD 78 0 3,lD 79 1 78,oP 80 (.bin .eql (.t 79) (.c (.int .i64 3))),mV 81 80,⟨some 82,some (81,true),.mv (.t 5)⟩,oP 83 (.pick (.t 81) (.t 82) (.c (.bool false))),mV 77 83] (.cond (.t 77) (.reg [mV 84 0,mV 85 0,mV 86 0,fD 87 1 3,lD 88 1 87,oP 89 (.call 76 [.t 86,.t 88]),oP 90 (.call 75 [.t 85,.t 89]),eX 91 90 0,eX 92 90 1,oP 93 (.call 72 [.t 84,.t 91,.t 92])]) (sR [fD 95 0 3,lD 96 1 95,oP 97 (.bin .eql (.t 96) (.c (.int .i64 4))),mV 98 97,⟨some 99,some (98,true),.mv (.t 5)⟩,oP 100 (.pick (.t 98) (.t 99) (.c (.bool false))),mV 94 100] (.cond (.t 94) (.reg [mV 101 0,fD 102 1 3,lD 103 1 102,oP 104 (.call 76 [.t 101,.t 103])]) (sR [fD 106 0 3,lD 107 1 106,oP 108 (.bin .eql (.t 107) (.c (.int .i64 5))),mV 109 108,⟨some 110,some (109,true),.mv (.t 5)⟩,oP 111 (.pick (.t 109) (.t 110) (.c (.bool false))),mV 105 111] (.cond (.t 105) (.drw [0,0,2,6,14,0,32,126,254,511] [(0,mV 112 0),(1,mV 113 0),(2,oP 114 (.nilc (.t 113))),(3,fD 115 3 114),(4,lD 116 1 115),(5,fD 117 1 3),(6,lD 118 1 117),(7,oP 119 (.iad 7 (.t 116) (.t 118))),(8,lA 120 7 119),(9,oP 121 (.call 72 [.t 112,.t 120,.c (.bool true)]))]) (sR [fD 123 0 3,lD 124 1 123,oP 125 (.bin .eql (.t 124) (.c (.int .i64 6))),mV 122 125] (.cond (.t 122) (sR [mV 126 0,oP 127 (.nilc (.t 126)),fD 128 0 127,lD 129 1 128,oP 130 (.mkf 78 [.t 3]),oP 131 (.call 77 [.t 129,.t 130]),oP 132 (.un .not (.t 131)),mV 6 132] (.drw [0,0,2,0,8,24,56,120,248,504,1016,2040,4088,8184,16383] [(0,mV 133 0),(1,fD 134 4 3),(2,lA 135 7 134),(3,fD 136 4 3),(4,lA 137 7 136),(5,oP 138 (.call 47 [.t 137])),(6,mV 139 138),(7,⟨some 140,some (139,true),.fad 4 (.t 3)⟩),(8,⟨some 141,some (139,true),.ld 7 true (.t 140)⟩),(9,⟨some 142,some (139,true),.call 79 [.t 141]⟩),(10,oP 143 (.pick (.t 139) (.t 142) (.c (.bool false)))),(11,mV 144 143),(12,⟨some 145,some (144,true),.mv (.t 6)⟩),(13,oP 146 (.pick (.t 144) (.t 145) (.c (.bool false)))),(14,oP 147 (.call 72 [.t 133,.t 135,.t 146]))])) .skip))))))))))))))
theorem dg32 : digF Tryz.prog Tryz.f32 = some (ic32,[]) := by kernel_rfl
theorem en32 : entr Tryz.prog 32 = true := by kernel_rfl
set_option maxHeartbeats 1000000 in
theorem c32 (w : M.World) (e : Ev) (hw : WI w) (ht : e.pkt.text.length ≤ 2000000) : FnP Tryz.prog G 32 1 [.var 33 [.own 2 w.convs.length,.sl 3 (w.door.map.map Pair.row),.own 1 w.door.flows.length,.own 3 w.nets.length],.arr 91 8 (w.door.flows.map Flw.row),.arr 42 10 (w.convs.map Conv.row),.arr 40 7 (w.nets.map Pk.row)] [.pv 0 0,.agg [.int .i64 e.kind,.int .i64 e.a,.int .i64 e.b,.int .i64 e.c,.int .i64 e.pkt.kind,.int .i64 e.pkt.frm.a,.int .i64 e.pkt.frm.p,.int .i64 e.pkt.to.a,.int .i64 e.pkt.to.p,.int .i64 e.pkt.at_,.str e.pkt.text]] (fun r o => r = .tup [] ∧ ∃ v,v = wDo w e ∧ o = [.var 33 [.own 2 v.convs.length,.sl 3 (v.door.map.map Pair.row),.own 1 v.door.flows.length,.own 3 v.nets.length],.arr 91 8 (v.door.flows.map Flw.row),.arr 42 10 (v.convs.map Conv.row),.arr 40 7 (v.nets.map Pk.row)]) := by
  refine FnP.mk' Tryz.func32 en32 dg32 Tryz.ntmps32 (by simp) ⟨_,_,rfl,_,rfl,rfl⟩ ?_
  have hnl := hw.nl
  have hcl := hw.cl
  have hml := (mapOk_ports (doorOk_iff.1 hw.door).1).2
  have fin : ∀ l mm (v : M.World) (n1 n2 n3 : Nat),v = wDo w e → getH mm 0 = .var 33 [.own n2 v.convs.length,.sl 3 (v.door.map.map Pair.row),.own n1 v.door.flows.length,.own n3 v.nets.length] → getH mm n1 = .arr 91 8 (v.door.flows.map Flw.row) → getH mm n2 = .arr 42 10 (v.convs.map Conv.row) → getH mm n3 = .arr 40 7 (v.nets.map Pk.row) → [0,n1,n2,n3].Nodup →
      retQ [] 1 (fun r o => r = .tup [] ∧ ∃ v,v = wDo w e ∧ o = [.var 33 [.own 2 v.convs.length,.sl 3 (v.door.map.map Pair.row),.own 1 v.door.flows.length,.own 3 v.nets.length],.arr 91 8 (v.door.flows.map Flw.row),.arr 42 10 (v.convs.map Conv.row),.arr 40 7 (v.nets.map Pk.row)]) .normal ⟨getL l,getH mm⟩ := fun l mm v n1 n2 n3 h0 h1 h2 h3 h4 h5 => by
    show retQ _ _ _ .ret _
    refine retN (.tup []) [.var 33 [.own 2 v.convs.length,.sl 3 (v.door.map.map Pair.row),.own 1 v.door.flows.length,.own 3 v.nets.length],.arr 91 8 (v.door.flows.map Flw.row),.arr 42 10 (v.convs.map Conv.row),.arr 40 7 (v.nets.map Pk.row)] [(1,n1),(2,n2),(3,n3)] (by simp only [go_sem,resL_0]) ⟨rfl,v,h0,rfl⟩ ?_ (by simpa [argH,getN] using h5) (by simp only [go_sem])
    simp only [go_sem,h1,h2,h3,h4]
  have opt_i : ∀ o : Option Pk,(bif o.isSome then some (o.getD .zero) else none) = o := fun o => by cases o <;> rfl
  by_cases k1 : e.kind = 1
  · have hk := k1
    cases hbc : within e.a 0 ((w.convs.length : Int) - 1)
    · have hx : wDo w e = w := by simp [wDo,hk,sayW,hbc,send]
      simp only [ic32,go_sem,hk]
      with_reducible repeat' (first | rw [i64w (by omega)]; try simp only [go_sem,hk,hbc] | refine br ?_ ?_ <;> intro h e <;> (try simp only [e,go_sem,hk,hbc]) <;> clear e | (first | refine sk ?_ | refine sd ?_) <;> try simp only [go_sem,hk,hbc] | (first | refine cr (c36 ..) ?_) <;> try simp only [go_sem,hk,hbc] | fail)
      exact fin _ _ w 1 2 3 hx.symm (by simp only [go_sem]) (by simp only [go_sem]) (by simp only [go_sem]) (by simp only [go_sem]) (by decide)
    have hb2 := M.within_iff.1 hbc
    have hil : e.a.toNat < w.convs.length := by omega
    have hg0 : w.convs.getD e.a.toNat default = w.convs[e.a.toNat] := by simp [List.getD,hil]
    have hcb := convOk_B (hw.cv _ (List.getElem_mem hil))
    have hsw : sayW w true e.a e.b e.c = say w.convs[e.a.toNat] true 0 e.b e.c := by simp only [sayW,hbc,if_true,List.getElem?_eq_getElem hil]; rfl
    have hx : wDo w e = send w (sayW w true e.a e.b e.c) := by simp [wDo,hk]
    have fs := c73 w.convs[e.a.toNat] true 0 e.b e.c (by have := hcb.up; omega) (by have := hcb.down; omega)
    rw [hsw] at hx
    generalize w.convs[e.a.toNat] = cv at *
    simp only [ic32,go_sem,hk]
    with_reducible repeat' (first | rw [i64w (by omega)]; try simp only [go_sem,hk,hbc,getD_mp hil,hg0] | refine br ?_ ?_ <;> intro h e <;> (try simp only [e,go_sem,hk,hbc,getD_mp hil,hg0]) <;> clear e | (first | refine sk ?_ | refine sd ?_) <;> try simp only [go_sem,hk,hbc,getD_mp hil,hg0] | (first | refine cr (c36 ..) ?_ | refine cr (fs ..) ?_) <;> try simp only [go_sem,hk,hbc,getD_mp hil,hg0] | fail)
    generalize say cv true 0 e.b e.c = o at *
    refine callN (c72 w (o.getD .zero) o.isSome (by omega)) [0,1,2,3] [] true 48 4 (by simp only [go_sem]; first | done | simp) (by simp only [go_sem]; first | done | simp) (by simp) (by simp) (by simp) ?_ ?_ ?_
    · rintro _ _ ⟨rfl,v,hv,rfl⟩
      exact ⟨by simp,by simp,.inl rfl,fun i hi => by obtain rfl : i = 0 := (by omega); simp [chH,stepOk]⟩
    · intro i hi
      rcases (show i = 0 ∨ i = 1 ∨ i = 2 ∨ i = 3 by omega) with rfl | rfl | rfl | rfl <;> simp only [go_sem]
    rintro _ _ ⟨rfl,vv,hvv,rfl⟩
    simp only [go_sem]
    with_reducible repeat' (first | refine br ?_ ?_ <;> intro h e <;> (try simp only [e,go_sem]) <;> clear e | rw [i64w (by omega)] | (first | refine sk ?_ | refine sd ?_) <;> try simp only [go_sem] | fail)
    rw [opt_i,← hx] at hvv
    exact fin _ _ vv 104801 104802 104803 hvv (by simp only [go_sem]) (by simp only [go_sem]) (by simp only [go_sem]) (by simp only [go_sem]) (by decide)
  by_cases k2 : e.kind = 2
  · have hk := k2
    cases hbc : within e.a 0 ((w.convs.length : Int) - 1)
    · have hx : wDo w e = w := by simp [wDo,hk,sayW,hbc,send]
      simp only [ic32,go_sem,hk]
      with_reducible repeat' (first | rw [i64w (by omega)]; try simp only [go_sem,hk,hbc] | refine br ?_ ?_ <;> intro h e <;> (try simp only [e,go_sem,hk,hbc]) <;> clear e | (first | refine sk ?_ | refine sd ?_) <;> try simp only [go_sem,hk,hbc] | (first | refine cr (c36 ..) ?_) <;> try simp only [go_sem,hk,hbc] | fail)
      exact fin _ _ w 1 2 3 hx.symm (by simp only [go_sem]) (by simp only [go_sem]) (by simp only [go_sem]) (by simp only [go_sem]) (by decide)
    have hb2 := M.within_iff.1 hbc
    have hil : e.a.toNat < w.convs.length := by omega
    have hg0 : w.convs.getD e.a.toNat default = w.convs[e.a.toNat] := by simp [List.getD,hil]
    have hcb := convOk_B (hw.cv _ (List.getElem_mem hil))
    have hsw : sayW w false e.a e.b e.c = say w.convs[e.a.toNat] false (portOf w.door.map w.convs[e.a.toNat].ins) e.b e.c := by simp only [sayW,hbc,if_true,List.getElem?_eq_getElem hil]; rfl
    have hx : wDo w e = send w (sayW w false e.a e.b e.c) := by simp [wDo,hk]
    have hA : ((e.a.toNat : Nat) : Int) = e.a := by omega
    have fp := c74 w e.a.toNat hil (by omega)
    rw [hg0,hA] at fp
    have fs := c73 w.convs[e.a.toNat] false (portOf w.door.map w.convs[e.a.toNat].ins) e.b e.c (by have := hcb.up; omega) (by have := hcb.down; omega)
    rw [hsw] at hx
    generalize w.convs[e.a.toNat] = cv at *
    simp only [ic32,go_sem,hk]
    with_reducible repeat' (first | rw [i64w (by omega)]; try simp only [go_sem,hk,hbc,getD_mp hil,hg0] | refine br ?_ ?_ <;> intro h e <;> (try simp only [e,go_sem,hk,hbc,getD_mp hil,hg0]) <;> clear e | (first | refine sk ?_ | refine sd ?_) <;> try simp only [go_sem,hk,hbc,getD_mp hil,hg0] | (first | refine cr (c36 ..) ?_) <;> try simp only [go_sem,hk,hbc,getD_mp hil,hg0] | fail)
    refine callRd fp [0,1,2,3] 68 4 (by simp only [go_sem]; first | done | simp) (by simp only [go_sem]; first | done | simp) (by simp) (by simp) ?_ ?_ ?_ ?_
    · rintro _ _ ⟨rfl,rfl⟩
      exact ⟨by simp,by simp,fun i hi => by rcases (show i = 0 ∨ i = 1 ∨ i = 2 ∨ i = 3 by omega) with rfl | rfl | rfl | rfl <;> simp [chH,stepOk]⟩
    · intro i hi
      rcases (show i = 0 ∨ i = 1 ∨ i = 2 ∨ i = 3 by omega) with rfl | rfl | rfl | rfl <;> simp only [go_sem]
    · rintro _ _ ⟨rfl,rfl⟩ x hx
      simp only [go_sem,List.drop_succ_cons,List.drop_nil,List.append_nil,List.mem_cons,List.not_mem_nil,or_false] at hx
      rcases hx with rfl | rfl | rfl | rfl <;> simp only [go_sem]
    rintro _ _ ⟨rfl,rfl⟩
    simp only [go_sem]
    with_reducible repeat' (first | refine br ?_ ?_ <;> intro h e <;> (try simp only [e,go_sem,hk,getD_mp hil,hg0]) <;> clear e | rw [i64w (by omega)] | (first | refine sk ?_ | refine sd ?_) <;> try simp only [go_sem,hk,getD_mp hil,hg0] | (first | refine cr (fs ..) ?_) <;> try simp only [go_sem,hk,getD_mp hil,hg0] | fail)
    generalize say cv false (portOf w.door.map cv.ins) e.b e.c = o at *
    refine callN (c72 w (o.getD .zero) o.isSome (by omega)) [0,1,2,3] [] true 76 4 (by simp only [go_sem]; first | done | simp) (by simp only [go_sem]; first | done | simp) (by simp) (by simp) (by simp) ?_ ?_ ?_
    · rintro _ _ ⟨rfl,v,hv,rfl⟩
      exact ⟨by simp,by simp,.inl rfl,fun i hi => by obtain rfl : i = 0 := (by omega); simp [chH,stepOk]⟩
    · intro i hi
      rcases (show i = 0 ∨ i = 1 ∨ i = 2 ∨ i = 3 by omega) with rfl | rfl | rfl | rfl <;> simp only [go_sem]
    rintro _ _ ⟨rfl,vv,hvv,rfl⟩
    simp only [go_sem]
    with_reducible repeat' (first | refine br ?_ ?_ <;> intro h e <;> (try simp only [e,go_sem]) <;> clear e | rw [i64w (by omega)] | (first | refine sk ?_ | refine sd ?_) <;> try simp only [go_sem] | fail)
    rw [opt_i,← hx] at hvv
    exact fin _ _ vv 107601 107602 107603 hvv (by simp only [go_sem]) (by simp only [go_sem]) (by simp only [go_sem]) (by simp only [go_sem]) (by decide)
  by_cases k3 : e.kind = 3
  · have hk := k3
    cases hbn : within e.a 0 ((w.nets.length : Int) - 1)
    · have hx : wDo w e = w := by simp [wDo,hk,hbn]
      simp only [ic32,go_sem,hk]
      with_reducible repeat' (first | rw [i64w (by omega)]; try simp only [go_sem,hk,hbn] | refine br ?_ ?_ <;> intro h e <;> (try simp only [e,go_sem,hk,hbn]) <;> clear e | (first | refine sk ?_ | refine sd ?_) <;> try simp only [go_sem,hk,hbn] | (first | refine cr (c36 ..) ?_) <;> try simp only [go_sem,hk,hbn] | fail)
      exact fin _ _ w 1 2 3 hx.symm (by simp only [go_sem]) (by simp only [go_sem]) (by simp only [go_sem]) (by simp only [go_sem]) (by decide)
    have hb2 := M.within_iff.1 hbn
    have hil : e.a.toNat < w.nets.length := by omega
    have hg0 : w.nets.getD e.a.toNat default = w.nets[e.a.toNat] := by simp [List.getD,hil]
    have hg2 : w.nets[e.a.toNat]? = some w.nets[e.a.toNat] := List.getElem?_eq_getElem hil
    have hA : ((e.a.toNat : Nat) : Int) = e.a := by omega
    have hnp := hw.net _ (List.mem_of_getElem? hg2)
    have hx : wDo w e = send (carry { w with nets := w.nets.eraseIdx e.a.toNat } w.nets[e.a.toNat]).1 (carry { w with nets := w.nets.eraseIdx e.a.toNat } w.nets[e.a.toNat]).2 := by simp [wDo,hk,hbn,hg2]
    have ft := c76 w e.a.toNat hil (by omega)
    rw [hg0,hA] at ft
    generalize hp : w.nets[e.a.toNat] = p at *
    simp only [ic32,go_sem,hk]
    with_reducible repeat' (first | rw [i64w (by omega)]; try simp only [go_sem,hk,hbn] | refine br ?_ ?_ <;> intro h e <;> (try simp only [e,go_sem,hk,hbn]) <;> clear e | (first | refine sk ?_ | refine sd ?_) <;> try simp only [go_sem,hk,hbn] | (first | refine cr (c36 ..) ?_) <;> try simp only [go_sem,hk,hbn] | fail)
    refine callN ft [0,1,2,3] [] true 89 4 (by simp only [go_sem]; first | done | simp) (by simp only [go_sem]; first | done | simp) (by simp) (by simp) (by simp) ?_ ?_ ?_
    · rintro _ _ ⟨rfl,v,hv,rfl⟩
      exact ⟨by simp,by simp,.inl rfl,fun i hi => by obtain rfl : i = 0 := (by omega); simp [chH,stepOk]⟩
    · intro i hi
      rcases (show i = 0 ∨ i = 1 ∨ i = 2 ∨ i = 3 by omega) with rfl | rfl | rfl | rfl <;> simp only [go_sem]
    rintro _ _ ⟨rfl,v,hv,rfl⟩
    simp only [go_sem]
    with_reducible repeat' (first | refine br ?_ ?_ <;> intro h e <;> (try simp only [e,go_sem]) <;> clear e | rw [i64w (by omega)] | (first | refine sk ?_ | refine sd ?_) <;> try simp only [go_sem] | fail)
    rw [← hv] at hx
    have hwv : WI v := by rw [hv]; exact hw.erase _
    have hcv : v.convs = w.convs := by rw [hv]
    have hok := (carry_ok hwv (by rw [hcv]; exact hnp)).1
    refine callN (c75 v p hwv hnp.pk) [0,108901,108902,108903] [] true 90 4 (by simp only [go_sem]; first | done | simp) (by simp only [go_sem]; first | done | simp) (by simp) (by simp) (by simp) ?_ ?_ ?_
    · rintro _ _ ⟨q,rfl,hq,rfl⟩
      exact ⟨by simp,by simp,.inl rfl,fun i hi => by obtain rfl : i = 0 := (by omega); simp [chH,stepOk]⟩
    · intro i hi
      rcases (show i = 0 ∨ i = 1 ∨ i = 2 ∨ i = 3 by omega) with rfl | rfl | rfl | rfl <;> simp only [go_sem]
    rintro _ _ ⟨q,rfl,hq,rfl⟩
    generalize carry v p = r at *
    obtain ⟨v1,o⟩ := r
    simp only at hok hx hq
    have hn1 := hok.nl
    simp only [go_sem]
    with_reducible repeat' (first | refine br ?_ ?_ <;> intro h e <;> (try simp only [e,go_sem]) <;> clear e | rw [i64w (by omega)] | (first | refine sk ?_ | refine sd ?_) <;> try simp only [go_sem] | fail)
    refine callN (c72 v1 q o.isSome (by omega)) [0,109001,109002,109003] [] true 93 4 (by simp only [go_sem]; first | done | simp) (by simp only [go_sem]; first | done | simp) (by simp) (by simp) (by simp) ?_ ?_ ?_
    · rintro _ _ ⟨rfl,v,hv,rfl⟩
      exact ⟨by simp,by simp,.inl rfl,fun i hi => by obtain rfl : i = 0 := (by omega); simp [chH,stepOk]⟩
    · intro i hi
      rcases (show i = 0 ∨ i = 1 ∨ i = 2 ∨ i = 3 by omega) with rfl | rfl | rfl | rfl <;> simp only [go_sem]
    rintro _ _ ⟨rfl,vv,hvv,rfl⟩
    simp only [go_sem]
    with_reducible repeat' (first | refine br ?_ ?_ <;> intro h e <;> (try simp only [e,go_sem]) <;> clear e | rw [i64w (by omega)] | (first | refine sk ?_ | refine sd ?_) <;> try simp only [go_sem] | fail)
    have ho : (bif o.isSome then some q else none) = o := by cases o with
      | none => rfl
      | some q' => rw [hq q' rfl]; rfl
    rw [ho,← hx] at hvv
    exact fin _ _ vv 109301 109302 109303 hvv (by simp only [go_sem]) (by simp only [go_sem]) (by simp only [go_sem]) (by simp only [go_sem]) (by decide)
  by_cases k4 : e.kind = 4
  · have hk := k4
    cases hbn : within e.a 0 ((w.nets.length : Int) - 1)
    · have hx : wDo w e = w := by simp [wDo,hk,hbn]
      simp only [ic32,go_sem,hk]
      with_reducible repeat' (first | rw [i64w (by omega)]; try simp only [go_sem,hk,hbn] | refine br ?_ ?_ <;> intro h e <;> (try simp only [e,go_sem,hk,hbn]) <;> clear e | (first | refine sk ?_ | refine sd ?_) <;> try simp only [go_sem,hk,hbn] | (first | refine cr (c36 ..) ?_) <;> try simp only [go_sem,hk,hbn] | fail)
      exact fin _ _ w 1 2 3 hx.symm (by simp only [go_sem]) (by simp only [go_sem]) (by simp only [go_sem]) (by simp only [go_sem]) (by decide)
    have hb2 := M.within_iff.1 hbn
    have hil : e.a.toNat < w.nets.length := by omega
    have hg0 : w.nets.getD e.a.toNat default = w.nets[e.a.toNat] := by simp [List.getD,hil]
    have hg2 : w.nets[e.a.toNat]? = some w.nets[e.a.toNat] := List.getElem?_eq_getElem hil
    have hA : ((e.a.toNat : Nat) : Int) = e.a := by omega
    have hnp := hw.net _ (List.mem_of_getElem? hg2)
    have hx : wDo w e = { w with nets := w.nets.eraseIdx e.a.toNat } := by simp [wDo,hk,hbn]
    have ft := c76 w e.a.toNat hil (by omega)
    rw [hg0,hA] at ft
    generalize hp : w.nets[e.a.toNat] = p at *
    simp only [ic32,go_sem,hk]
    with_reducible repeat' (first | rw [i64w (by omega)]; try simp only [go_sem,hk,hbn] | refine br ?_ ?_ <;> intro h e <;> (try simp only [e,go_sem,hk,hbn]) <;> clear e | (first | refine sk ?_ | refine sd ?_) <;> try simp only [go_sem,hk,hbn] | (first | refine cr (c36 ..) ?_) <;> try simp only [go_sem,hk,hbn] | fail)
    refine callN ft [0,1,2,3] [] true 104 4 (by simp only [go_sem]; first | done | simp) (by simp only [go_sem]; first | done | simp) (by simp) (by simp) (by simp) ?_ ?_ ?_
    · rintro _ _ ⟨rfl,v,hv,rfl⟩
      exact ⟨by simp,by simp,.inl rfl,fun i hi => by obtain rfl : i = 0 := (by omega); simp [chH,stepOk]⟩
    · intro i hi
      rcases (show i = 0 ∨ i = 1 ∨ i = 2 ∨ i = 3 by omega) with rfl | rfl | rfl | rfl <;> simp only [go_sem]
    rintro _ _ ⟨rfl,v,hv,rfl⟩
    simp only [go_sem]
    with_reducible repeat' (first | refine br ?_ ?_ <;> intro h e <;> (try simp only [e,go_sem]) <;> clear e | rw [i64w (by omega)] | (first | refine sk ?_ | refine sd ?_) <;> try simp only [go_sem] | fail)
    rw [← hx] at hv
    exact fin _ _ v 110401 110402 110403 hv (by simp only [go_sem]) (by simp only [go_sem]) (by simp only [go_sem]) (by simp only [go_sem]) (by decide)
  by_cases k5 : e.kind = 5
  · have hk := k5
    cases hbn : within e.a 0 ((w.nets.length : Int) - 1)
    · have hx : wDo w e = w := by simp [wDo,hk,hbn]
      simp only [ic32,go_sem,hk]
      with_reducible repeat' (first | rw [i64w (by omega)]; try simp only [go_sem,hk,hbn] | refine br ?_ ?_ <;> intro h e <;> (try simp only [e,go_sem,hk,hbn]) <;> clear e | (first | refine sk ?_ | refine sd ?_) <;> try simp only [go_sem,hk,hbn] | (first | refine cr (c36 ..) ?_) <;> try simp only [go_sem,hk,hbn] | fail)
      exact fin _ _ w 1 2 3 hx.symm (by simp only [go_sem]) (by simp only [go_sem]) (by simp only [go_sem]) (by simp only [go_sem]) (by decide)
    have hb2 := M.within_iff.1 hbn
    have hil : e.a.toNat < w.nets.length := by omega
    have hg0 : w.nets.getD e.a.toNat default = w.nets[e.a.toNat] := by simp [List.getD,hil]
    have hg2 : w.nets[e.a.toNat]? = some w.nets[e.a.toNat] := List.getElem?_eq_getElem hil
    have hA : ((e.a.toNat : Nat) : Int) = e.a := by omega
    have hnp := hw.net _ (List.mem_of_getElem? hg2)
    have hx : wDo w e = send w (some w.nets[e.a.toNat]) := by simp [wDo,hk,hbn,hg2]
    generalize w.nets[e.a.toNat] = p at *
    simp only [ic32,go_sem,hk]
    with_reducible repeat' (first | rw [i64w (by omega)]; try simp only [go_sem,hk,hbn,getD_mp hil,hg0] | refine br ?_ ?_ <;> intro h e <;> (try simp only [e,go_sem,hk,hbn,getD_mp hil,hg0]) <;> clear e | (first | refine sk ?_ | refine sd ?_) <;> try simp only [go_sem,hk,hbn,getD_mp hil,hg0] | (first | refine cr (c36 ..) ?_) <;> try simp only [go_sem,hk,hbn,getD_mp hil,hg0] | fail)
    refine callN (c72 w p true (by omega)) [0,1,2,3] [] true 121 4 (by simp only [go_sem]; first | done | simp) (by simp only [go_sem]; first | done | simp) (by simp) (by simp) (by simp) ?_ ?_ ?_
    · rintro _ _ ⟨rfl,v,hv,rfl⟩
      exact ⟨by simp,by simp,.inl rfl,fun i hi => by obtain rfl : i = 0 := (by omega); simp [chH,stepOk]⟩
    · intro i hi
      rcases (show i = 0 ∨ i = 1 ∨ i = 2 ∨ i = 3 by omega) with rfl | rfl | rfl | rfl <;> simp only [go_sem]
    rintro _ _ ⟨rfl,vv,hvv,rfl⟩
    simp only [go_sem]
    with_reducible repeat' (first | refine br ?_ ?_ <;> intro h e <;> (try simp only [e,go_sem]) <;> clear e | rw [i64w (by omega)] | (first | refine sk ?_ | refine sd ?_) <;> try simp only [go_sem] | fail)
    simp only [cond_true] at hvv
    rw [← hx] at hvv
    exact fin _ _ vv 112101 112102 112103 hvv (by simp only [go_sem]) (by simp only [go_sem]) (by simp only [go_sem]) (by simp only [go_sem]) (by decide)
  by_cases k6 : e.kind = 6
  · have hk := k6
    have fc := c77D w.convs e (by omega)
    simp only [hk] at fc
    have f1 := c47 e.pkt ht
    have f2 := c79 e.pkt
    have hx : wDo w e = send w (bif stranger w e.pkt then some e.pkt else none) := by
      simp only [wDo,hk]
      cases stranger w e.pkt <;> simp [send]
    rw [stranger_e] at hx
    generalize w.convs.any (strC e.pkt) = ba at *
    generalize pkOk e.pkt = bp at *
    generalize e.pkt.inward = bi at *
    simp only [ic32,go_sem,hk]
    with_reducible repeat' (first | rw [i64w (by omega)]; try simp only [go_sem,hk,mkf_pv1] | refine br ?_ ?_ <;> intro h e <;> (try simp only [e,go_sem,hk,mkf_pv1]) <;> clear e | (first | refine sk ?_ | refine sd ?_) <;> try simp only [go_sem,hk,mkf_pv1] | (first | refine cr (c36 ..) ?_) <;> try simp only [go_sem,hk,mkf_pv1] | fail)
    refine callF fc [2,1003] false (by simp only [go_sem,List.mem_cons,true_or,or_true]) (by simp only [List.mem_cons,List.not_mem_nil,or_false]; rintro c (rfl | rfl) <;> simp only [go_sem]) rfl (.inr rfl) ?_
    cases ba <;> cases bp <;> cases bi
    all_goals
      simp only [go_sem]
      with_reducible repeat' (first | refine br ?_ ?_ <;> intro h e <;> (try simp only [e,go_sem]) <;> clear e | rw [i64w (by omega)] | (first | refine sk ?_ | refine sd ?_) <;> try simp only [go_sem] | (first | refine cr (f1 ..) ?_ | refine cr (f2 ..) ?_) <;> try simp only [go_sem] | fail)
    all_goals first
      | (
         refine callN (c72 w e.pkt false (by omega)) [0,1,2,3] [] true 147 4 (by simp only [go_sem]; first | done | simp) (by simp only [go_sem]; first | done | simp) (by simp) (by simp) (by simp) ?_ ?_ ?_
         · rintro _ _ ⟨rfl,v,hv,rfl⟩
           exact ⟨by simp,by simp,.inl rfl,fun i hi => by obtain rfl : i = 0 := (by omega); simp [chH,stepOk]⟩
         · intro i hi
           rcases (show i = 0 ∨ i = 1 ∨ i = 2 ∨ i = 3 by omega) with rfl | rfl | rfl | rfl <;> simp only [go_sem]
         rintro _ _ ⟨rfl,vv,hvv,rfl⟩
         simp only [go_sem]
         with_reducible repeat' (first | refine br ?_ ?_ <;> intro h e <;> (try simp only [e,go_sem]) <;> clear e | rw [i64w (by omega)] | (first | refine sk ?_ | refine sd ?_) <;> try simp only [go_sem] | fail)
         simp only [Bool.not_true,Bool.not_false,Bool.and_true,Bool.and_false,Bool.true_and,Bool.false_and,Bool.and_self,cond_true,cond_false] at hx hvv
         rw [← hx] at hvv
         exact fin _ _ vv 114701 114702 114703 hvv (by simp only [go_sem]) (by simp only [go_sem]) (by simp only [go_sem]) (by simp only [go_sem]) (by decide)
         done
         )
      | (
         refine callN (c72 w e.pkt true (by omega)) [0,1,2,3] [] true 147 4 (by simp only [go_sem]; first | done | simp) (by simp only [go_sem]; first | done | simp) (by simp) (by simp) (by simp) ?_ ?_ ?_
         · rintro _ _ ⟨rfl,v,hv,rfl⟩
           exact ⟨by simp,by simp,.inl rfl,fun i hi => by obtain rfl : i = 0 := (by omega); simp [chH,stepOk]⟩
         · intro i hi
           rcases (show i = 0 ∨ i = 1 ∨ i = 2 ∨ i = 3 by omega) with rfl | rfl | rfl | rfl <;> simp only [go_sem]
         rintro _ _ ⟨rfl,vv,hvv,rfl⟩
         simp only [go_sem]
         with_reducible repeat' (first | refine br ?_ ?_ <;> intro h e <;> (try simp only [e,go_sem]) <;> clear e | rw [i64w (by omega)] | (first | refine sk ?_ | refine sd ?_) <;> try simp only [go_sem] | fail)
         simp only [Bool.not_true,Bool.not_false,Bool.and_true,Bool.and_false,Bool.true_and,Bool.false_and,Bool.and_self,cond_true,cond_false] at hx hvv
         rw [← hx] at hvv
         exact fin _ _ vv 114701 114702 114703 hvv (by simp only [go_sem]) (by simp only [go_sem]) (by simp only [go_sem]) (by simp only [go_sem]) (by decide)
         done
         )
  have hx : wDo w e = w := by simp [wDo, *]
  simp only [ic32,go_sem]
  with_reducible repeat' (first | rw [i64w (by omega)]; try simp only [go_sem,eq_false k1,eq_false k2,eq_false k3,eq_false k4,eq_false k5,eq_false k6] | refine br ?_ ?_ <;> intro h e <;> (try simp only [e,go_sem,eq_false k1,eq_false k2,eq_false k3,eq_false k4,eq_false k5,eq_false k6]) <;> clear e | (first | refine sk ?_ | refine sd ?_) <;> try simp only [go_sem,eq_false k1,eq_false k2,eq_false k3,eq_false k4,eq_false k5,eq_false k6] | (first | refine cr (c36 ..) ?_) <;> try simp only [go_sem,eq_false k1,eq_false k2,eq_false k3,eq_false k4,eq_false k5,eq_false k6] | fail)
  exact fin _ _ w 1 2 3 hx.symm (by simp only [go_sem]) (by simp only [go_sem]) (by simp only [go_sem]) (by simp only [go_sem]) (by decide)
end Go.Proofs.YtblndjmhjaijjaaGreatDoor.W
namespace Go.Proofs.YtblndjmhjaijjaaGreatDoor.M
structure StepI (K : List Conv → Door → Prop) (N : List Conv → Door → Pk → Prop) : Prop where
  say : ∀ (w : World) c up port n m p,WI w → K w.convs w.door → c ∈ w.convs → (up = false → port = portOf w.door.map c.ins) → say c up port n m = some p → N w.convs w.door p
  str : ∀ (w : World) p,WI w → K w.convs w.door → stranger w p = true → N w.convs w.door p
  pass : ∀ (w : World) p,WI w → K w.convs w.door → NetP w.convs p → N w.convs w.door p → (p.to.door = true ∨ p.frm.inside = true) →
    K w.convs (dPass w.door p).1 ∧ (∀ q,(dPass w.door p).2 = some q → N w.convs (dPass w.door p).1 q) ∧ ∀ q,NetP w.convs q → N w.convs w.door q → N w.convs (dPass w.door p).1 q
  hear : ∀ (w : World) p i b c,WI w → K w.convs w.door → NetP w.convs p → N w.convs w.door p → ¬ (p.to.door = true ∨ p.frm.inside = true) → hostIx w p = some (i,b) → w.convs[i]? = some c →
    K (w.convs.set i (hear c b p).1) w.door ∧ (∀ q,(hear c b p).2 = some q → N (w.convs.set i (hear c b p).1) w.door q) ∧ ∀ q,NetP w.convs q → N w.convs w.door q → N (w.convs.set i (hear c b p).1) w.door q
structure SI (K : List Conv → Door → Prop) (N : List Conv → Door → Pk → Prop) (w : World) : Prop where
  wi : WI w
  k : K w.convs w.door
  n : ∀ p ∈ w.nets,N w.convs w.door p
variable {K : List Conv → Door → Prop} {N : List Conv → Door → Pk → Prop}
theorem SI.erase {w : World} (h : SI K N w) (k : Nat) : SI K N { w with nets := w.nets.eraseIdx k } := ⟨h.wi.erase k,h.k,fun p hp => h.n p (List.mem_of_mem_eraseIdx hp)⟩
theorem SI.carry {w : World} {p : Pk} (S : StepI K N) (h : SI K N w) (hp : NetP w.convs p) (hn : N w.convs w.door p) : SI K N (carry w p).1 ∧ ∀ q,(carry w p).2 = some q → NetP (carry w p).1.convs q ∧ N (carry w p).1.convs (carry w p).1.door q := by
  obtain ⟨h1,h2⟩ := carry_ok h.wi hp
  suffices hh : K (M.carry w p).1.convs (M.carry w p).1.door ∧ (∀ q ∈ (M.carry w p).1.nets,N (M.carry w p).1.convs (M.carry w p).1.door q) ∧ ∀ q,(M.carry w p).2 = some q → N (M.carry w p).1.convs (M.carry w p).1.door q from
    ⟨⟨h1,hh.1,hh.2.1⟩,fun q hq => ⟨h2 q hq,hh.2.2 q hq⟩⟩
  clear h1 h2
  unfold M.carry
  split
  · rename_i hc
    obtain ⟨p1,p2,p3⟩ := S.pass w p h.wi h.k hp hn (by simpa using hc)
    exact ⟨p1,fun q hq => p3 q (h.wi.net q hq) (h.n q hq),p2⟩
  · rename_i hc
    split
    · exact ⟨h.k,h.n,fun q hq => by cases hq⟩
    · rename_i i b hb
      obtain ⟨c,hcv,_⟩ := hostIx_at hb
      simp only [hcv]
      obtain ⟨p1,p2,p3⟩ := S.hear w p i b c h.wi h.k hp hn (by simpa using hc) hb hcv
      exact ⟨p1,fun q hq => p3 q (h.wi.net q hq) (h.n q hq),p2⟩
theorem SI.send {w : World} {o : Option Pk} (h : SI K N w) (hp : ∀ p,o = some p → NetP w.convs p ∧ N w.convs w.door p) : SI K N (send w o) := by
  refine ⟨send_ok h.wi fun p e => (hp p e).1, ?_, ?_⟩ <;> unfold M.send <;> cases o with
  | none => first | exact h.k | exact h.n
  | some p =>
    simp only
    split <;> first | exact h.k | exact h.n | skip
    all_goals intro q hq
    all_goals rcases List.mem_append.1 hq with hq | hq
    all_goals first
      | exact h.n q hq
      | (simp only [List.mem_singleton] at hq; subst hq; exact (hp _ rfl).2)
theorem SI.sayW {w : World} (S : StepI K N) (h : SI K N w) {up : Bool} {a b c : Int} {p : Pk} (hs : sayW w up a b c = some p) : N w.convs w.door p := by
  unfold M.sayW at hs
  split at hs
  · split at hs
    · rename_i cv hcv
      exact S.say w cv up _ b c p h.wi h.k (List.mem_of_getElem? hcv) (fun hu => by subst hu; rfl) hs
    · cases hs
  · cases hs
theorem SI.wDo {w : World} (S : StepI K N) (h : SI K N w) (e : Ev) : SI K N (wDo w e) := by
  unfold M.wDo
  simp only
  split
  · exact h.send fun p hp => ⟨sayW_net h.wi hp,h.sayW S hp⟩
  split
  · exact h.send fun p hp => ⟨sayW_net h.wi hp,h.sayW S hp⟩
  split
  · split
    · split
      · rename_i p hp
        obtain ⟨h1,h2⟩ := (h.erase e.a.toNat).carry S (h.wi.net p (List.mem_of_getElem? hp)) (h.n p (List.mem_of_getElem? hp))
        exact h1.send h2
      · exact h
    · exact h
  split
  · split
    · exact h.erase _
    · exact h
  split
  · split
    · exact h.send fun p hp => ⟨h.wi.net p (List.mem_of_getElem? hp),h.n p (List.mem_of_getElem? hp)⟩
    · exact h
  split
  · split
    · rename_i hs
      exact h.send fun p hp => by cases hp; exact ⟨stranger_net hs,S.str w _ h.wi h.k hs⟩
    · exact h
  · exact h
theorem SI.play {w : World} (S : StepI K N) (h : SI K N w) : ∀ es : List Ev,SI K N (es.foldl M.wDo w)
  | [] => h
  | e :: es => SI.play S (h.wDo S e) es
def Apart (cs : List Conv) : Prop := ∀ (i j : Nat) c d,cs[i]? = some c → cs[j]? = some d → (c.ins = d.ins ∨ c.out = d.out) → i = j
theorem Apart.set {cs : List Conv} (h : Apart cs) {i : Nat} {c x : Conv} (hi : cs[i]? = some c) (h1 : x.ins = c.ins) (h2 : x.out = c.out) : Apart (cs.set i x) := by
  have hl := (List.getElem?_eq_some_iff.1 hi).1
  have key : ∀ (j : Nat) y,(cs.set i x)[j]? = some y → ∃ z,cs[j]? = some z ∧ y.ins = z.ins ∧ y.out = z.out := by
    intro j y hy
    by_cases hij : i = j
    · subst hij
      rw [List.getElem?_set_self hl] at hy; cases hy
      exact ⟨c,hi,h1,h2⟩
    · rw [List.getElem?_set_ne hij] at hy
      exact ⟨y,hy,rfl,rfl⟩
  intro j k a b ha hb he
  obtain ⟨a',ha',e1,e2⟩ := key j a ha
  obtain ⟨b',hb',e3,e4⟩ := key k b hb
  exact h j k a' b' ha' hb' (by rw [← e1,← e2,← e3,← e4]; exact he)
theorem newConvs_got : ∀ {cs ns : List Conv},newConvs cs = some ns → ∀ c ∈ ns,c.upGot = [] ∧ c.downGot = [] ∧ c.upAck = 0 ∧ c.downAck = 0
  | [],ns,h,c,hc => by cases h; cases hc
  | a :: cs,ns,h,c,hc => by
    simp only [newConvs] at h
    split at h
    · rename_i n ns' h1 h2
      cases h
      rcases List.mem_cons.1 hc with rfl | hc
      · unfold convNew at h1
        split at h1
        · cases h1; exact ⟨rfl,rfl,rfl,rfl⟩
        · cases h1
      · exact newConvs_got h2 c hc
    · cases h
theorem worldNew_is {cs : List Conv} {w : World} (h : worldNew cs = some w) : together w.convs = true ∧ newConvs cs = some w.convs ∧ w.door = .zero ∧ w.nets = [] := by
  unfold worldNew at h
  split at h
  · rename_i ns hn
    split at h
    · rename_i ht
      cases h
      exact ⟨ht,hn,rfl,rfl⟩
    · cases h
  · cases h
theorem worldPlay_is {cs : List Conv} {es : List Ev} {w : World} (h : worldPlay cs es = some w) : ∃ w0,worldNew cs = some w0 ∧ es.length ≤ 60 ∧ w = es.foldl wDo w0 := by
  unfold worldPlay at h
  split at h
  · rename_i w0 h0
    split at h
    · rename_i hl
      cases h
      exact ⟨w0,h0,hl,rfl⟩
    · cases h
  · cases h
theorem play_si {cs : List Conv} {es : List Ev} {w : World} (S : StepI K N) (h0 : ∀ w0 : World,worldNew cs = some w0 → K w0.convs w0.door) (h : worldPlay cs es = some w) : SI K N w := by
  obtain ⟨w0,h1,_,rfl⟩ := worldPlay_is h
  obtain ⟨_,_,_,hn⟩ := worldNew_is h1
  exact SI.play S ⟨worldNew_ok h1,h0 w0 h1,by rw [hn]; intro p hp; cases hp⟩ es
theorem hostIx_is {w : World} {p : Pk} {i : Nat} {b : Bool} {c : Conv} (h : hostIx w p = some (i,b)) (hc : w.convs[i]? = some c) :
    (bif b then p.to = c.ins ∧ p.frm = c.out else p.to = c.out ∧ p.frm.door = true ∧ p.frm.p = portOf w.door.map c.ins) := by
  unfold hostIx at h
  split at h
  · rename_i k hk
    split at h
    · rename_i d hd
      cases h
      rw [hc] at hd; cases hd
      obtain ⟨hlt,hp,_⟩ := List.findIdx?_eq_some_iff_getElem.1 hk
      have : w.convs[i] = c := by
        have := List.getElem?_eq_getElem hlt
        rw [hc] at this; cases this; rfl
      rw [this] at hp
      simp only [Bool.or_eq_true,Bool.and_eq_true,decide_eq_true_eq] at hp
      by_cases h1 : p.to = c.ins ∧ p.frm = c.out
      · simp [h1]
      · have : (decide (p.to = c.ins) && decide (p.frm = c.out)) = false := by
          simpa using h1
        rw [this]
        rcases hp with hp | hp
        · exact absurd hp h1
        · exact ⟨hp.1.1,hp.1.2,hp.2⟩
    · cases h
  · cases h
theorem hear_grows (c : Conv) (b : Bool) (p : Pk) : (∃ x,(hear c b p).1.upGot = c.upGot ++ x) ∧ (∃ x,(hear c b p).1.downGot = c.downGot ++ x) ∧ c.upAck ≤ (hear c b p).1.upAck ∧ c.downAck ≤ (hear c b p).1.downAck := by
  have key : ∀ (g : B) (n : Int) (t : B),∃ x,(behind g n t).1 = g ++ x := by
    intro g n t
    unfold behind
    split
    · exact ⟨[],by simp⟩
    · split
      · exact ⟨[],by simp⟩
      · exact ⟨_,rfl⟩
  unfold hear
  cases b <;> simp only [cond_true,cond_false] <;> split
  · split
    · exact ⟨⟨[],by simp⟩,⟨[],by simp⟩,Int.le_refl _,Int.le_max_left _ _⟩
    · exact ⟨key _ _ _,⟨[],by simp⟩,Int.le_refl _,Int.le_refl _⟩
  · exact ⟨⟨[],by simp⟩,⟨[],by simp⟩,Int.le_refl _,Int.le_refl _⟩
  · split
    · exact ⟨⟨[],by simp⟩,⟨[],by simp⟩,Int.le_max_left _ _,Int.le_refl _⟩
    · exact ⟨⟨[],by simp⟩,key _ _ _,Int.le_refl _,Int.le_refl _⟩
  · exact ⟨⟨[],by simp⟩,⟨[],by simp⟩,Int.le_refl _,Int.le_refl _⟩
end Go.Proofs.YtblndjmhjaijjaaGreatDoor.M
namespace Go.Proofs.YtblndjmhjaijjaaGreatDoor.M
theorem mOut_pre (m : List Pair) (e : E) : ∃ x,(mOut m e).1 = m ++ x := by
  unfold mOut
  split
  · exact ⟨[],by simp⟩
  · split
    · exact ⟨[],by simp⟩
    · exact ⟨_,rfl⟩
theorem turn_pre (m : List Pair) (p : Pc) (s : B) (out : Bool) : ∃ x,(turn m p s out).1 = m ++ x := by
  unfold turn
  cases out
  · exact ⟨[],by simp⟩
  · simp only [cond_true,pieceOut]
    split
    · have := mOut_pre m p.e
      split
      · rename_i h; rw [h] at this; exact this
      · exact ⟨[],by simp⟩
    · exact ⟨[],by simp⟩
theorem turned_pre : ∀ (l : List Pc) (m : List Pair) (s : B) (out : Bool),∃ x,(turned m l s out).1 = m ++ x
  | [],m,s,out => ⟨[],by simp [turned]⟩
  | p :: l,m,s,out => by
    obtain ⟨x,hx⟩ := turn_pre m p (s.take p.size) out
    obtain ⟨y,hy⟩ := turned_pre l (turn m p (s.take p.size) out).1 (s.drop p.size) out
    exact ⟨x ++ y,by simp only [turned]; rw [hy,hx,List.append_assoc]⟩
theorem put_pre (m : List Pair) (s : Strm) (n : Int) (t : B) (out : Bool) : ∃ x,(put m s n t out).1 = m ++ x := by
  unfold put
  split
  · exact turned_pre _ _ _ _
  · exact ⟨[],by simp⟩
theorem portOf_app {m x : List Pair} {e : E} (h : portOf m e ≠ 0) : portOf (m ++ x) e = portOf m e := by
  unfold portOf at h ⊢
  rw [List.find?_append]
  cases hf : m.find? fun p => decide (p.ins = e) with
  | none => rw [hf] at h; exact absurd rfl h
  | some p => rfl
theorem put_port {m : List Pair} {s : Strm} {n : Int} {t : B} {out : Bool} {e : E} (h : portOf m e ≠ 0) : portOf (put m s n t out).1 e = portOf m e := by
  obtain ⟨x,hx⟩ := put_pre m s n t out
  rw [hx]; exact portOf_app h
theorem portOf_door {m : List Pair} {e : E} (hm : mapOk m = true) (h : portOf m e ≠ 0) : (⟨9,portOf m e⟩ : E).door = true := by
  obtain ⟨hp,_⟩ := mapOk_ports hm
  have h1 := mOut_found (fun p h => (hp p h).1) h
  have := mOut_door (e := e) hm (by rw [h1])
  rw [h1] at this
  exact this
theorem dPass_is {cs : List Conv} {d : Door} {p q : Pk} (hd : doorOk d = true) (hp : NetP cs p) (h : (dPass d p).2 = some q) :
    (p.outward = true ∧ q.frm = ⟨9,portOf (dPass d p).1.map p.frm⟩ ∧ q.frm.door = true ∧ q.to = p.to ∧ q.kind = p.kind) ∨
    (p.inward = true ∧ q.frm = p.frm ∧ q.to.inside = true ∧ insideOf d.map p.to.p = some q.to ∧ q.kind = p.kind ∧ (flowIx d.flows q.to q.frm).isSome = true) := by
  unfold dPass at h ⊢
  split at h
  · rename_i ho
    have ho' := ho
    rw [if_pos ho]
    simp only [Pk.outward,Bool.and_eq_true] at ho
    left
    cases hok : (openR d p.frm p.to).2.2 with
    | false => rw [dOut_no hok] at h; cases h
    | true =>
      have hx := openR_ok hd ho.1 ho.2 hok
      rw [dOut_yes hok hx.kl] at h ⊢
      obtain ⟨_,_,h2,h3,h4⟩ := outK_P hx.ok hx.kl hp.pk h
      have hmap := hx.map
      have hport := hx.port
      have hmp : portOf (outK (openR d p.frm p.to).1 (openR d p.frm p.to).2.1 p).1.map p.frm = portOf (openR d p.frm p.to).1.map p.frm := by
        unfold outK
        split
        · split <;> rfl
        · split
          · rfl
          · have hf : (openR d p.frm p.to).1.flows[(openR d p.frm p.to).2.1]? = some (Flw.at (openR d p.frm p.to).1 (openR d p.frm p.to).2.1) := by simp [Flw.at,List.getD,hx.kl]
            exact put_port hport
      have hdr : (⟨9,portOf (openR d p.frm p.to).1.map p.frm⟩ : E).door = true := portOf_door hmap hport
      exact ⟨ho',by rw [h2,hmp],by rw [h2]; exact hdr,h3,h4⟩
  · rename_i hno
    rw [if_neg hno]
    split at h
    · rename_i hi
      have hi' := hi
      simp only [Pk.inward,Bool.and_eq_true] at hi
      right
      cases h1 : insideOf d.map p.to.p with
      | none => rw [dIn_no1 h1] at h; cases h
      | some i =>
        cases h2 : flowIx d.flows i p.frm with
        | none => rw [dIn_no2 h1 h2] at h; cases h
        | some k =>
          obtain ⟨hk,he⟩ := dIn_yes h1 h2
          rw [he] at h
          obtain ⟨_,h4,h5,h6⟩ := inK_P hd hk hp.pk h
          exact ⟨hi',h4,by rw [h5]; exact insideOf_ok (doorOk_iff.1 hd).1 h1,by rw [h5],h6,by rw [h5,h4,h2]; rfl⟩
    · cases h
theorem mem_set_or {cs : List Conv} {i : Nat} {x y : Conv} (h : y ∈ cs.set i x) : y ∈ cs ∨ y = x := List.mem_or_eq_of_mem_set h
end Go.Proofs.YtblndjmhjaijjaaGreatDoor.M
namespace Go.Proofs.YtblndjmhjaijjaaGreatDoor.M
theorem dOut_ext (d : Door) (p : Pk) : (∃ y,(dOut d p).1.map = d.map ++ y) ∧ d.flows.length ≤ (dOut d p).1.flows.length := by
  have h0 : (∃ y,d.map = d.map ++ y) ∧ d.flows.length ≤ d.flows.length := ⟨⟨[],by simp⟩,Nat.le_refl _⟩
  have hop : ∀ x k,openF d p.frm p.to = some (x,k) → (∃ y,x.map = d.map ++ y) ∧ d.flows.length ≤ x.flows.length := by
    intro x k h
    unfold openF at h
    split at h
    · cases h; exact h0
    · split at h
      · rename_i m port hm
        split at h
        · cases h
          have := mOut_pre d.map p.frm
          rw [hm] at this
          exact ⟨this,by simp⟩
        · cases h
      · cases h
  unfold dOut
  split
  · exact h0
  · rename_i x k ho
    have hx := hop x k ho
    split
    · exact hx
    · rename_i f hf
      split
      · split <;> exact hx
      · split
        · exact hx
        · rename_i m s hp
          obtain ⟨⟨y,hy⟩,hl⟩ := hx
          obtain ⟨z,hz⟩ := put_pre x.map f.up p.at_ p.text true
          rw [hp] at hz
          exact ⟨⟨y ++ z,by simp only at hz ⊢; rw [hz,hy,List.append_assoc]⟩,by simpa using hl⟩
theorem dIn_ext (d : Door) (p : Pk) : (dIn d p).1.map = d.map ∧ (dIn d p).1.flows.length = d.flows.length := by
  unfold dIn
  split
  · exact ⟨rfl,rfl⟩
  · split
    · exact ⟨rfl,rfl⟩
    · split
      · exact ⟨rfl,rfl⟩
      · split
        · split <;> exact ⟨rfl,rfl⟩
        · split
          · exact ⟨rfl,rfl⟩
          · exact ⟨rfl,by simp⟩
structure CExt (c d : Conv) : Prop where
  ins : d.ins = c.ins
  out : d.out = c.out
  up : d.up = c.up
  down : d.down = c.down
  upGot : ∃ x,d.upGot = c.upGot ++ x
  downGot : ∃ x,d.downGot = c.downGot ++ x
  upAck : c.upAck ≤ d.upAck
  downAck : c.downAck ≤ d.downAck
theorem CExt.refl (c : Conv) : CExt c c := ⟨rfl,rfl,rfl,rfl,⟨[],by simp⟩,⟨[],by simp⟩,Int.le_refl _,Int.le_refl _⟩
theorem CExt.trans {a b c : Conv} (h : CExt a b) (g : CExt b c) : CExt a c := by
  obtain ⟨x,hx⟩ := h.upGot
  obtain ⟨y,hy⟩ := g.upGot
  obtain ⟨x',hx'⟩ := h.downGot
  obtain ⟨y',hy'⟩ := g.downGot
  exact ⟨g.ins.trans h.ins,g.out.trans h.out,g.up.trans h.up,g.down.trans h.down,⟨x ++ y,by rw [hy,hx,List.append_assoc]⟩,⟨x' ++ y',by rw [hy',hx',List.append_assoc]⟩,Int.le_trans h.upAck g.upAck,Int.le_trans h.downAck g.downAck⟩
structure Ext (w v : World) : Prop where
  map : ∃ y,v.door.map = w.door.map ++ y
  fl : w.door.flows.length ≤ v.door.flows.length
  len : v.convs.length = w.convs.length
  cv : ∀ (i : Nat) c d,w.convs[i]? = some c → v.convs[i]? = some d → CExt c d
theorem Ext.same {w v : World} (h1 : v.convs = w.convs) (h2 : v.door = w.door) : Ext w v :=
  ⟨⟨[],by rw [h2]; simp⟩,by rw [h2]; exact Nat.le_refl _,by rw [h1],fun i c d hc hd => by rw [h1,hc] at hd; cases hd; exact .refl _⟩
theorem Ext.trans {a b c : World} (h : Ext a b) (g : Ext b c) : Ext a c := by
  obtain ⟨x,hx⟩ := h.map
  obtain ⟨y,hy⟩ := g.map
  refine ⟨⟨x ++ y,by rw [hy,hx,List.append_assoc]⟩,Nat.le_trans h.fl g.fl,g.len.trans h.len,fun i p q hp hq => ?_⟩
  have hl : i < b.convs.length := by rw [h.len]; exact (List.getElem?_eq_some_iff.1 hp).1
  exact (h.cv i p _ hp (List.getElem?_eq_getElem hl)).trans (g.cv i _ q (List.getElem?_eq_getElem hl) hq)
theorem carry_ext (w : World) (p : Pk) : Ext w (carry w p).1 := by
  unfold carry
  split
  · have h : (∃ y,(dPass w.door p).1.map = w.door.map ++ y) ∧ w.door.flows.length ≤ (dPass w.door p).1.flows.length := by
      unfold dPass
      split
      · exact dOut_ext _ _
      · split
        · have := dIn_ext w.door p
          exact ⟨⟨[],by rw [this.1]; simp⟩,by omega⟩
        · exact ⟨⟨[],by simp⟩,Nat.le_refl _⟩
    exact ⟨h.1,h.2,rfl,fun i c d hc hd => by simp only at hd; rw [hc] at hd; cases hd; exact .refl _⟩
  · split
    · exact .same rfl rfl
    · rename_i i b hb
      split
      · exact .same rfl rfl
      · rename_i c hc
        refine ⟨⟨[],by simp⟩,Nat.le_refl _,by simp,fun j x y hx hy => ?_⟩
        simp only at hy
        by_cases hij : i = j
        · subst hij
          rw [hc] at hx; cases hx
          rw [List.getElem?_set_self (List.getElem?_eq_some_iff.1 hc).1] at hy; cases hy
          obtain ⟨s1,s2,s3,s4⟩ := hear_same c b p
          obtain ⟨g1,g2,g3,g4⟩ := hear_grows c b p
          exact ⟨s1,s2,s3,s4,g1,g2,g3,g4⟩
        · rw [List.getElem?_set_ne hij,hx] at hy; cases hy; exact .refl _
theorem send_ext (w : World) (o : Option Pk) : Ext w (send w o) := by
  unfold send
  cases o with
  | none => exact .same rfl rfl
  | some p => simp only; split <;> exact .same rfl rfl
theorem wDo_ext (w : World) (e : Ev) : Ext w (wDo w e) := by
  unfold wDo
  simp only
  split
  · exact send_ext _ _
  split
  · exact send_ext _ _
  split
  · split
    · split
      · have h1 : Ext w { w with nets := w.nets.eraseIdx e.a.toNat } := .same rfl rfl
        exact h1.trans ((carry_ext _ _).trans (send_ext _ _))
      · exact .same rfl rfl
    · exact .same rfl rfl
  split
  · split <;> exact .same rfl rfl
  split
  · split
    · exact send_ext _ _
    · exact .same rfl rfl
  split
  · split
    · exact send_ext _ _
    · exact .same rfl rfl
  · exact .same rfl rfl
theorem play_ext : ∀ (es : List Ev) (w : World),Ext w (es.foldl wDo w)
  | [],_ => .same rfl rfl
  | e :: es,w => (wDo_ext w e).trans (play_ext es _)
theorem play_take {cs : List Conv} {es : List Ev} {w : World} (h : worldPlay cs es = some w) (k : Nat) : ∃ x,worldPlay cs (es.take k) = some x ∧ Ext x w ∧ WI x ∧ WI w ∧ w = (es.drop k).foldl wDo x := by
  obtain ⟨w0,h0,hl,rfl⟩ := worldPlay_is h
  have hlt : (es.take k).length ≤ 60 := by simp; omega
  have he : es.foldl wDo w0 = (es.drop k).foldl wDo ((es.take k).foldl wDo w0) := by
    rw [← List.foldl_append,List.take_append_drop]
  refine ⟨(es.take k).foldl wDo w0,by simp only [worldPlay,h0]; rw [if_pos hlt], ?_,play_ok (worldNew_ok h0) _,play_ok (worldNew_ok h0) _,he⟩
  rw [he]
  exact play_ext _ _
theorem law_map {cs : List Conv} {es : List Ev} {w : World} (h : worldPlay cs es = some w) (k : Nat) : ∃ x,worldPlay cs (es.take k) = some x ∧ (∃ y,w.door.map = x.door.map ++ y) ∧ mapOk w.door.map = true ∧ x.door.flows.length ≤ w.door.flows.length := by
  obtain ⟨x,h1,h2,_,h4,_⟩ := play_take h k
  exact ⟨x,h1,h2.map,(doorOk_iff.1 h4.door).1,h2.fl⟩
structure Sil (w : World) : Prop where
  got : ∀ c ∈ w.convs,c.upGot = [] ∧ c.downGot = []
  door : w.door = .zero
  net : ∀ p ∈ w.nets,p.inward = true
theorem sil_send {w : World} {o : Option Pk} (h : Sil w) (hp : ∀ p,o = some p → p.inward = true) : Sil (send w o) := by
  unfold send
  cases o with
  | none => exact h
  | some p =>
    simp only
    split
    · refine ⟨h.got,h.door,fun q hq => ?_⟩
      rcases List.mem_append.1 hq with hq | hq
      · exact h.net q hq
      · simp only [List.mem_singleton] at hq; subst hq; exact hp _ rfl
    · exact h
theorem sil_do {w : World} (h : Sil w) (e : Ev) (he : e.kind ≠ 1) : Sil (wDo w e) := by
  unfold wDo
  simp only
  rw [if_neg he]
  split
  · refine sil_send h fun p hp => ?_
    exfalso
    unfold sayW at hp
    split at hp
    · split at hp
      · rw [h.door] at hp
        unfold say at hp
        simp [Door.zero,portOf_nil,E.door,within] at hp
      · cases hp
    · cases hp
  split
  · split
    · split
      · rename_i p hp
        have hin := h.net p (List.mem_of_getElem? hp)
        have hin' := hin
        simp only [Pk.inward,Bool.and_eq_true] at hin
        have hc : carry { w with nets := w.nets.eraseIdx e.a.toNat } p = ({ w with nets := w.nets.eraseIdx e.a.toNat },none) := by
          unfold carry
          rw [if_pos (by simp [hin.2])]
          have hno : p.outward = false := by simp [Pk.outward,not_in_out hin.1]
          have : dPass w.door p = (w.door,none) := by
            unfold dPass
            rw [hno,hin']
            simp only [Bool.false_eq_true,if_false,if_true]
            rw [h.door]
            rfl
          simp only [this]
        rw [hc]
        exact ⟨h.got,h.door,fun q hq => h.net q (List.mem_of_mem_eraseIdx hq)⟩
      · exact h
    · exact h
  split
  · split
    · exact ⟨h.got,h.door,fun q hq => h.net q (List.mem_of_mem_eraseIdx hq)⟩
    · exact h
  split
  · split
    · exact sil_send h fun p hp => h.net p (List.mem_of_getElem? hp)
    · exact h
  split
  · split
    · rename_i hs
      refine sil_send h fun p hp => ?_
      cases hp
      simp only [stranger,Bool.and_eq_true] at hs
      exact hs.1.2
    · exact h
  · exact h
theorem sil_play : ∀ (es : List Ev) {w : World},Sil w → (∀ e ∈ es,e.kind ≠ 1) → Sil (es.foldl wDo w)
  | [],_,h,_ => h
  | e :: es,_,h,he => sil_play es (sil_do h e (he e (by simp))) fun x hx => he x (by simp [hx])
theorem law_silent {cs : List Conv} {es : List Ev} {w : World} (h : worldPlay cs es = some w) : ∃ x,worldPlay cs (es.filter fun e => decide (e.kind ≠ 1)) = some x ∧ (∀ c ∈ x.convs,c.upGot = [] ∧ c.downGot = []) ∧ x.door.flows.length = 0 ∧ x.door.map.length = 0 := by
  obtain ⟨w0,h0,hl,rfl⟩ := worldPlay_is h
  obtain ⟨_,h1,h2,h3⟩ := worldNew_is h0
  have hlt : (es.filter fun e => decide (e.kind ≠ 1)).length ≤ 60 := Nat.le_trans (List.length_filter_le _ _) hl
  have hs : Sil w0 := ⟨fun c hc => by have := newConvs_got h1 c hc; exact ⟨this.1,this.2.1⟩,h2,by rw [h3]; intro p hp; cases hp⟩
  have := sil_play (es.filter fun e => decide (e.kind ≠ 1)) hs fun e he => by simpa using (List.mem_filter.1 he).2
  refine ⟨_,by simp only [worldPlay,h0]; rw [if_pos hlt],this.got, ?_, ?_⟩ <;> rw [this.door] <;> rfl
end Go.Proofs.YtblndjmhjaijjaaGreatDoor.M
namespace Go.Proofs.YtblndjmhjaijjaaGreatDoor.W
open Go Go.RowKit Go.Proofs Go.Proofs.YtblndjmhjaijjaaGreatDoor.VL Go.Proofs.YtblndjmhjaijjaaGreatDoor.M
attribute [local congr] optK_congr guardK_congr condK_congr runT_congr runD_congr wpI_congr CallV_congr LoopI_congr pureK_congr effK_congr calK_congr stepV_congr doV_congr exN_congr exB_congr retF_congr retQ_congr gK_congr condW_congr ldK_congr stoK_congr
attribute [local go_sem] argL_cons argL_nil argH_nil argH_cons chH_getH wpI_seq wpI_reg wpI_drw wpI_ret cond_k condW_t condW_f wpI_skip wpI_block wpI_exit wpI_loop exN_n exN_r exN_e exB_n exB_r exB_h exB_m runT_k kT_e runT_nil runD_k kD_e runD_nil step_u step_k gK_t gK_f do_mv do_bino bo_add bo_sub bo_mul bo_subu bo_quo bo_rem bo_xor bo_eql bo_neq bo_lss bo_leq bo_gtr bo_geq bo_cat bo_eqs bo_nes do_pick do_call do_cal calK_f do_box do_alloc do_ldk ldK_s do_stok stoK_s do_fad do_nilc do_not do_neg do_len do_lens do_ext do_eqs do_beq do_isn do_cvi do_sls do_idx do_mn do_mx do_build do_mkf do_s2b do_b2s do_slv do_iad do_bsl do_mks do_app ev_t ev_c app_some app_none
attribute [local go_sem] List.nil_append List.cons_append List.append_nil getL_hit getL_miss getH_nil getH_hit getH_miss nm_eq ne_eq Nat.reduceEqDiff not_false_eq_true Nat.reduceAdd Nat.add_zero Nat.zero_add if_true if_false ite_true ite_false pureK_s effK_s optK_s gdV_t gdV_f gdV_s pick_b ge_iff_le gt_iff_lt cond_true cond_false fresh_k cells_agg cells_int cells_bool cells_str cells_own cells_sl cells_nils ld_pv ld_pa ld_ip ldVar_t ldVar_f ldArr_t ldArr_f ldRow_t ldRow_f ldA_s ld1_s fad_pv fad_pa fad_ip nilc_pv nilc_pa nilc_ip not_b neg_i cvi_i ext_t retF_n retF_r
attribute [local go_sem] resV_k rvs_nil rvs_t rvs_c fstO_s consO_s resK_s resL_1 resL_2 resL_3 resL_4  Option.some.injEq List.map_cons List.map_nil List.all_cons List.all_nil Bool.and_true Bool.and_self Bool.not_true Bool.not_false Option.map_some Option.map_none sls_s slsG_s loV_n loV_i hiV_n hiV_i idx_s mn_i mx_i s2b_s b2s_s bytO_s bytes_nil bytes_cons conB_s slv_sl slv_own slv_nils slvG_s slvN_s slvO_s iad_sl iadG_map take_map drop_map List.length_map iad_own iad_view iadO_a iadW_a mks_i rowO_nils rowO_sl rowO_own rowA_a eq_self appG_nils appG_own appO_a guardP_T mapA_s bld_nil mkf_nil bldF_e fill_nil fill_cons mkf_e lens_s len_nils len_sl len_own len_view isn_nile isn_erre List.getElem?_cons_zero List.getElem?_cons_succ List.length_cons List.length_nil decide_true decide_false Int.toNat_natCast Int.cast_ofNat_Int Int.reduceLT Int.reduceLE Int.reduceEq Int.reduceAdd Int.reduceSub Int.reduceMul Int.reduceNeg Int.reduceToNat List.getD_cons_zero List.getD_cons_succ not_true_eq_false not_false_eq_true Bool.false_eq_true Bool.true_eq_false reduceCtorEq
attribute [local go_sem] E.row Pc.row Pair.row Part.row Strm.row Flw.row Pk.row Door.row Conv.row World.row Ev.row rdV E.eta Pc.eta Pair.eta Part.eta Strm.eta Pk.eta Flw.eta Conv.eta Door.eta World.eta Ev.eta
attribute [local go_sem] sub_ok st_pv st_pa stVar_v stArr_a Nat.le_refl List.drop_zero List.drop_succ_cons List.take_succ_cons List.take_zero setR Nat.reduceLeDiff
attribute [local go_sem] wk_bot wk2_bot wk1_bot wk_undef wk_tup_e wk2_agg_e wk_agg_e wk1_fn_e wk2_fn_e wk_fn_e wkl_nil wkl_cons wkh_var_e wkh_arr_e wkh_fresh_e wkh_dead_v wkh_dead_a wkh_dead_d wk0_undef wk0_int wk0_bool wk0_str wk0_nils wk0_nils_sl wk0_nilp wk0_nile wk0_erre wk0_sl wk0_iptr wk0_own wk0_view wk0_pv wk0_pa fzA_a fzW_a fzP_v wk0_own_sl wk0_view_sl wk0_pv_iptr WkS_nil WkS_cons WkN_nil WkN_cons nonB_nil nonB_cons getN_nil getN_hit getN_miss pinOk_0 pinOk_s and_true true_and and_self
attribute [local go_sem] bot_int one_int unt_int clo_int bot_bool one_bool unt_bool clo_bool bot_str one_str unt_str clo_str bot_nils one_nils unt_nils clo_nils bot_nilp one_nilp unt_nilp clo_nilp bot_nile one_nile unt_nile clo_nile bot_erre one_erre unt_erre clo_erre bot_raw one_raw unt_raw clo_raw bot_sl one_sl unt_sl clo_sl bot_own one_own unt_own clo_own bot_view one_view unt_view clo_view bot_pv one_pv unt_pv clo_pv bot_pa one_pa unt_pa clo_pa bot_iptr one_iptr unt_iptr clo_iptr unt_agg unt_fn one_fn
attribute [local go_sem] rn_tup rn_agg rn2_agg rn_fn rn2_fn rnfn1 rn_bot rn2_bot rn1_bot rn0_int rn0_bool rn0_str rn0_nils rn0_nilp rn0_nile rn0_erre rn0_sl rn0_iptr rn0_own rn0_view rn0_pv rn0_pa hrn_var hrn_arr hrn_dead outU_nil outU_cons deads_nil deads_cons bk_ge bk_lt nsF_0 nsF_s chH_0 chH_s chH_n newN_e andB_s eqR_nil eqR_i eqR_b eqR_s mapX_f mapX_t eqs_a beq_f beq_t live_arr live_var nsl_nil nsl_cons Nat.reduceMul Nat.reduceLT Nat.zero_le Nat.not_lt_zero
attribute [local go_sem] mV lD lA fD bN eX oP nP sR i0 s0
theorem convNew_is' {i o : E} {up down : B} {n : Conv} (h : convNew i o up down = some n) : n = ⟨i,o,up,down,0,0,[],[]⟩ := by
  unfold convNew at h
  split at h <;> cases h
  rfl
theorem newConvs_cons' (c : Conv) (cs : List Conv) : newConvs (c :: cs) = match convNew c.ins c.out c.up c.down with
    | some n => (newConvs cs).map (n :: ·)
    | none => none := by
  simp only [newConvs]
  cases convNew c.ins c.out c.up c.down <;> cases newConvs cs <;> rfl
def newI (o : Option M.World) (r : V) (out : List Hs) : Prop := (∃ w,o = some w ∧ r = .tup [.agg [.own 0 w.convs.length,.nils,.nils,.nils],.bool true] ∧ out = [.arr 42 10 (w.convs.map Conv.row)]) ∨ (o = none ∧ r = .tup [.agg [.nils,.nils,.nils,.nils],.bool false] ∧ out = [])
theorem newI_ex (o : Option M.World) : ∃ r out,newI o r out := by
  cases o with
  | none => exact ⟨_,_,.inr ⟨rfl,rfl,rfl⟩⟩
  | some w => exact ⟨_,_,.inl ⟨w,rfl,rfl,rfl⟩⟩
def ic31 : IC := sR [oP 2 (.alloc 33 [.nils,.nils,.nils,.nils]),oP 3 (.mv (.c (.bool false)))] (sR [mV 9 0,oP 10 (.len (.t 9)),oP 11 (.mks 42 10 (.t 10)),oP 12 (.build [.nils,.nils,.nils,.nils] [(0,(1,.t 11))]),oP 4 (.alloc 33 [.nils,.nils,.nils,.nils]),nP (.sto 4 (.t 4) (.t 12))] (.seq (sR [mV 13 0,oP 14 (.len (.t 13)),oP 15 (.mv (.c i0))] (.block 0 (.loop (sR [bN 16 .lss 15 14] (.seq (.cond (.t 16) .skip (.exit 0)) (.seq (.block 1 (sR [oP 17 (.iad 10 (.t 13) (.t 15)),lA 18 10 17,oP 6 (.alloc 42 [i0,i0,i0,i0,s0,s0,i0,i0,s0,s0]),nP (.sto 10 (.t 6) (.t 18))] (sR [fD 20 0 6,lA 21 2 20,fD 22 2 6,lA 23 2 22,fD 24 4 6,lD 25 1 24,fD 26 5 6,lD 27 1 26,oP 28 (.call 70 [.t 21,.t 23,.t 25,.t 27]),mV 19 28,eX 29 19 0,eX 30 19 1,oP 7 (.alloc 42 [i0,i0,i0,i0,s0,s0,i0,i0,s0,s0]),nP (.sto 10 (.t 7) (.t 29)),mV 8 30] (.seq (sR [mV 31 8,oP 32 (.un .not (.t 31))] (.cond (.t 32) (sR [oP 33 (.build [.nils,.nils,.nils,.nils] []),nP (.sto 4 (.t 2) (.t 33)),oP 3 (.mv (.c (.bool false)))] .ret) .skip)) (.reg [fD 34 0 4,lD 35 1 34,lA 36 10 7,oP 37 (.bsl 42 10 [.t 36]),oP 38 (.app 42 10 (.t 35) (.t 37)),fD 39 0 4,nP (.sto 1 (.t 39) (.t 38))]))))) (.reg [oP 40 (.bin .add (.t 15) (.c (.int .i64 1))),mV 15 40]))))))) (.seq (sR [fD 41 0 4,lD 42 1 41,oP 43 (.call 71 [.t 42]),oP 44 (.un .not (.t 43))] (.cond (.t 44) (sR [oP 45 (.build [.nils,.nils,.nils,.nils] []),nP (.sto 4 (.t 2) (.t 45)),oP 3 (.mv (.c (.bool false)))] .ret) .skip)) (sR [lA 46 4 4,nP (.sto 4 (.t 2) (.t 46)),oP 3 (.mv (.c (.bool true)))] .ret))))
theorem dg31 : digF Tryz.prog Tryz.f31 = some (ic31,[(.cell 2 4 true),(.t 3)]) := by kernel_rfl
theorem en31 : entr Tryz.prog 31 = true := by kernel_rfl
theorem c31 (cs : List Conv) (hl : cs.length ≤ 1000000) (hB : ∀ c ∈ cs,c.up.length ≤ 2000000 ∧ c.down.length ≤ 2000000) : FnP Tryz.prog G 31 0 [] [.sl 10 (cs.map Conv.row)] (newI (worldNew cs)) := by
  refine FnP.mk' Tryz.func31 en31 dg31 Tryz.ntmps31 (by simp) (newI_ex _) ?_
  have none' : ∀ l mm,worldNew cs = none → getL l 2 = .pv 1002 0 → getL l 3 = .bool false → getH mm 1002 = .var 33 [.nils,.nils,.nils,.nils] → retQ [.cell 2 4 true,.t 3] 0 (newI (worldNew cs)) .ret ⟨getL l,getH mm⟩ := fun l mm h1 h2 h3 h4 => by
    refine retN (.tup [.agg [.nils,.nils,.nils,.nils],.bool false]) [] [] ?_ (.inr ⟨h1,rfl,rfl⟩) (by simp only [go_sem]) (by simp [argH]) (by simp only [go_sem])
    simp only [go_sem,h2,h3,h4]
  simp only [ic31,go_sem]
  with_reducible repeat' (first | refine br ?_ ?_ <;> intro h e <;> (try simp only [e,go_sem]) <;> clear e | rw [i64w (by omega)] | (first | refine sk ?_ | refine sd ?_) <;> try simp only [go_sem] | fail)
  refine loopN (fun a : Nat × List Conv => ⟨getL [(2,.pv 1002 0),(4,.pv 1004 0),(13,.sl 10 (cs.map Conv.row)),(14,.int .i64 cs.length),(15,.int .i64 (a.1 : Int))],getH [(1002,.var 33 [.nils,.nils,.nils,.nils]),(1004,.var 33 [.own 1011 a.2.length,.nils,.nils,.nils]),(1011,.arr 42 10 (a.2.map Conv.row))]⟩)
    (fun a => cs.length - a.1) (fun a => a.1 ≤ cs.length ∧ a.2.length = a.1 ∧ newConvs cs = (newConvs (cs.drop a.1)).map (a.2 ++ ·) ∧ ∀ c ∈ a.2,(c.up.length ≤ 2000000 ∧ c.down.length ≤ 2000000) ∧ c.upGot.length ≤ 2000000 ∧ c.downGot.length ≤ 2000000) (0,[]) (leQ []) ⟨Nat.zero_le _,rfl,by simp,by simp⟩ ?_
  intro ⟨i,ns⟩ ⟨hi,hnl,hnc,hnB⟩
  simp only at hi hnl hnc hnB
  simp only [go_sem]
  by_cases h : (i : Int) < cs.length
  · have hil : i < cs.length := by omega
    have hg : cs.getD i default = cs[i] := by simp [List.getD,hil]
    obtain ⟨b1,b2⟩ := hB _ (List.getElem_mem hil)
    rw [List.drop_eq_getElem_cons hil,newConvs_cons'] at hnc
    have c1 := c70 cs[i].ins cs[i].out cs[i].up cs[i].down b1 b2
    simp only [eq_true h,go_sem]
    with_reducible repeat' (first | refine br ?_ ?_ <;> intro h e <;> (try simp only [e,go_sem,hg]) <;> clear e | rw [i64w (by omega)] | (first | refine sk ?_ | refine sd ?_) <;> try simp only [go_sem,hg] | (first | refine cr (c1 ..) ?_) <;> try simp only [go_sem,hg] | fail)
    · obtain ⟨n,hn⟩ := Option.isSome_iff_exists.1 (by assumption)
      have hni := convNew_is' hn
      simp only [hn,Option.getD_some] at hnc ⊢
      refine ⟨(i + 1,ns ++ [n]),by simp only; omega,⟨by simp only; omega,by simp only [List.length_append,List.length_cons,List.length_nil]; omega, ?_, ?_⟩,leN [(1011,1038)] ?_ ?_ (by simp [getN]) (by simp only [go_sem])⟩
      · simp only
        rw [hnc]
        cases newConvs (cs.drop (i + 1)) <;> simp
      · intro c hc
        rcases List.mem_append.1 hc with hc | hc
        · exact hnB c hc
        · simp only [List.mem_singleton] at hc
          subst hc
          rw [hni]
          exact ⟨⟨b1,b2⟩,by simp,by simp⟩
      · simp only [go_sem]; simp
      · simp only [go_sem]; simp [Conv.row]
    · have hn : convNew cs[i].ins cs[i].out cs[i].up cs[i].down = none := by simpa using h
      rw [hn] at hnc
      simp only [Option.map_none] at hnc
      exact none' _ _ (by simp [worldNew,hnc]) (by simp only [go_sem]) (by simp only [go_sem]) (by simp only [go_sem])
  · simp only [eq_false h,go_sem]
    have : i = cs.length := by omega
    subst this
    rw [List.drop_length] at hnc
    simp only [newConvs,Option.map_some,List.append_nil] at hnc
    refine callF (c71 ns (by omega) hnB) [1011] false (by simp only [go_sem]; first | done | simp [E.row,Pc.row,Pair.row,Part.row,Flw.row,Pk.row,Conv.row]) (by simp only [List.mem_singleton]; rintro c rfl; rfl) rfl (.inr rfl) ?_
    simp only [go_sem]
    cases ht : together ns <;> simp only [go_sem]
    · exact none' _ _ (by simp [worldNew,hnc,ht]) (by simp only [go_sem]) (by simp only [go_sem]) (by simp only [go_sem])
    · refine retN (.tup [.agg [.own 0 ns.length,.nils,.nils,.nils],.bool true]) [.arr 42 10 (ns.map Conv.row)] [(0,1011)] ?_ (.inl ⟨⟨ns,.zero,[]⟩,by simp [worldNew,hnc,ht],rfl,rfl⟩) ?_ (by simp [argH,getN]) (by simp only [go_sem])
      · simp only [go_sem]
      · simp only [go_sem]
def ic33 : IC := sR [oP 1 (.box 33 (.t 0)),oP 2 (.alloc 33 [.nils,.nils,.nils,.nils])] (.seq (.drw [0,1,3,7,0,16,63,0,128,511,1023,2047,4095] [(0,fD 3 0 1),(1,lD 4 1 3),(2,oP 5 (.call 81 [.t 4])),(3,oP 6 (.call 80 [.t 5])),(4,fD 7 1 1),(5,lA 8 2 7),(6,oP 9 (.call 49 [.t 8])),(7,fD 10 3 1),(8,lD 11 1 10),(9,oP 12 (.call 83 [.t 11])),(10,oP 13 (.call 82 [.t 12])),(11,oP 14 (.build [.nils,.nils,.nils,.nils] [(0,(1,.t 6)),(1,(2,.t 9)),(3,(1,.t 13))])),(12,nP (.sto 4 (.t 2) (.t 14)))]) .ret)
theorem dg33 : digF Tryz.prog Tryz.f33 = some (ic33,[(.cell 2 4 true)]) := by kernel_rfl
theorem en33 : entr Tryz.prog 33 = true := by kernel_rfl
theorem c33 (w : M.World) (hw : WI w) : FnR Tryz.prog G 33 [.agg [.sl 10 (w.convs.map Conv.row),.sl 3 (w.door.map.map Pair.row),.sl 8 (w.door.flows.map Flw.row),.sl 7 (w.nets.map Pk.row)]] (.agg [.sl 10 (w.convs.map Conv.row),.sl 3 (w.door.map.map Pair.row),.sl 8 (w.door.flows.map Flw.row),.sl 7 (w.nets.map Pk.row)]) := by
  refine FnR.mkF Tryz.func33 en33 dg33 Tryz.ntmps33 (by simp) ?_
  have hnl := hw.nl
  have hcl := hw.cl
  obtain ⟨hdm,hdf,_⟩ := doorOk_iff.1 hw.door
  have hml := (mapOk_ports hdm).2
  simp only [ic33,go_sem]
  with_reducible repeat' (first | refine br ?_ ?_ <;> intro h e <;> (try simp only [e,go_sem]) <;> clear e | rw [i64w (by omega)] | (first | refine sk ?_ | refine sd ?_) <;> try simp only [go_sem] | fail)
  refine callO (c81 (w.convs.map Conv.row) (by simp; omega)) [] 5 1 (by simp only [go_sem]; first | done | simp) (by simp) (by rintro _ _ ⟨rfl,rfl⟩; simp) (by intro i hi; obtain rfl : i = 0 := (by omega); simp only [go_sem]) ?_
  rintro _ _ ⟨rfl,rfl⟩
  simp only [go_sem]
  with_reducible repeat' (first | refine br ?_ ?_ <;> intro h e <;> (try simp only [e,go_sem]) <;> clear e | rw [i64w (by omega)] | (first | refine sk ?_ | refine sd ?_) <;> try simp only [go_sem] | fail)
  refine callU (o80 (w.convs.map Conv.row) w.convs.length (by simp)) [100500] [] 6 1 (by simp only [go_sem]; first | done | simp) (by simp only [go_sem]; first | done | simp) (by simp) (by simp) (by rintro _ _ ⟨rfl,rfl⟩; simp) (by intro i hi; obtain rfl : i = 0 := (by omega); simp only [go_sem]) ?_
  rintro _ _ ⟨rfl,rfl⟩
  simp only [go_sem]
  with_reducible repeat' (first | refine br ?_ ?_ <;> intro h e <;> (try simp only [e,go_sem]) <;> clear e | rw [i64w (by omega)] | (first | refine sk ?_ | refine sd ?_) <;> try simp only [go_sem] | fail)
  refine callO (k49 (w.door.map.map Pair.row) w.door.flows (by simp; omega) (by omega) (copyC hw.door)) [] 9 1 (by simp only [go_sem]; first | done | simp) (by simp) (by rintro _ _ ⟨rfl,rfl⟩; simp) (by intro i hi; obtain rfl : i = 0 := (by omega); simp only [go_sem]) ?_
  rintro _ _ ⟨rfl,rfl⟩
  simp only [go_sem]
  with_reducible repeat' (first | refine br ?_ ?_ <;> intro h e <;> (try simp only [e,go_sem]) <;> clear e | rw [i64w (by omega)] | (first | refine sk ?_ | refine sd ?_) <;> try simp only [go_sem] | fail)
  refine callO (c83 (w.nets.map Pk.row) (by simp; omega)) [] 12 1 (by simp only [go_sem]; first | done | simp) (by simp) (by rintro _ _ ⟨rfl,rfl⟩; simp) (by intro i hi; obtain rfl : i = 0 := (by omega); simp only [go_sem]) ?_
  rintro _ _ ⟨rfl,rfl⟩
  simp only [go_sem]
  with_reducible repeat' (first | refine br ?_ ?_ <;> intro h e <;> (try simp only [e,go_sem]) <;> clear e | rw [i64w (by omega)] | (first | refine sk ?_ | refine sd ?_) <;> try simp only [go_sem] | fail)
  refine callU (o82 (w.nets.map Pk.row) w.nets.length (by simp)) [101200] [] 13 1 (by simp only [go_sem]; first | done | simp) (by simp only [go_sem]; first | done | simp) (by simp) (by simp) (by rintro _ _ ⟨rfl,rfl⟩; simp) (by intro i hi; obtain rfl : i = 0 := (by omega); simp only [go_sem]) ?_
  rintro _ _ ⟨rfl,rfl⟩
  simp only [go_sem]
  with_reducible repeat' (first | refine br ?_ ?_ <;> intro h e <;> (try simp only [e,go_sem]) <;> clear e | rw [i64w (by omega)] | (first | refine sk ?_ | refine sd ?_) <;> try simp only [go_sem] | fail)
def ic10 : IC := sR [oP 4 (.alloc 33 [.nils,.nils,.nils,.nils]),oP 5 (.mv (.c (.bool false)))] (sR [mV 11 0,oP 12 (.call 31 [.t 11]),mV 10 12,eX 13 10 0,eX 14 10 1,oP 6 (.alloc 33 [.nils,.nils,.nils,.nils]),nP (.sto 4 (.t 6) (.t 13)),mV 7 14] (.seq (sR [mV 15 7,oP 16 (.un .not (.t 15)),mV 17 16,⟨some 18,some (17,false),.mv (.t 1)⟩,⟨some 19,some (17,false),.len (.t 18)⟩,⟨some 20,some (17,false),.bin .gtr (.t 19) (.c (.int .i64 60))⟩,oP 21 (.pick (.t 17) (.c (.bool true)) (.t 20))] (.cond (.t 21) (sR [oP 22 (.build [.nils,.nils,.nils,.nils] []),nP (.sto 4 (.t 4) (.t 22)),oP 5 (.mv (.c (.bool false)))] .ret) .skip)) (.seq (sR [mV 23 1,oP 24 (.len (.t 23)),oP 25 (.mv (.c i0))] (.block 0 (.loop (sR [bN 26 .lss 25 24] (.seq (.cond (.t 26) .skip (.exit 0)) (.seq (.block 1 (sR [oP 27 (.iad 11 (.t 23) (.t 25)),lA 28 11 27,oP 9 (.alloc 46 [i0,i0,i0,i0,i0,i0,i0,i0,i0,i0,s0]),nP (.sto 11 (.t 9) (.t 28))] (.reg [lA 29 11 9,oP 30 (.call 32 [.t 6,.t 29])]))) (.reg [oP 31 (.bin .add (.t 25) (.c (.int .i64 1))),mV 25 31]))))))) (sR [lA 32 4 6,oP 33 (.call 33 [.t 32]),nP (.sto 4 (.t 4) (.t 33)),oP 5 (.mv (.c (.bool true)))] .ret))))
theorem dg10 : digF Tryz.prog Tryz.f10 = some (ic10,[(.cell 4 4 true),(.t 5)]) := by kernel_rfl
theorem en10 : entr Tryz.prog 10 = true := by kernel_rfl
set_option maxHeartbeats 1000000 in
theorem c10 (cs : List Conv) (es : List Ev) (hl : cs.length ≤ 1000000) (hB : ∀ c ∈ cs,c.up.length ≤ 2000000 ∧ c.down.length ≤ 2000000) (hel : es.length ≤ 1000000) (heB : ∀ e ∈ es,e.pkt.text.length ≤ 2000000) :
    FnR Tryz.prog G 10 [.sl 10 (cs.map Conv.row),.sl 11 (es.map Ev.row)] (.tup [.agg [.sl 10 (((worldPlay cs es).getD .zero).convs.map Conv.row),.sl 3 (((worldPlay cs es).getD .zero).door.map.map Pair.row),.sl 8 (((worldPlay cs es).getD .zero).door.flows.map Flw.row),.sl 7 (((worldPlay cs es).getD .zero).nets.map Pk.row)],.bool (worldPlay cs es).isSome]) := by
  refine FnR.mkF Tryz.func10 en10 dg10 Tryz.ntmps10 (by simp) ?_
  simp only [ic10,go_sem]
  refine callO (c31 cs hl hB) [] 12 1 (by simp only [go_sem]; first | done | simp) (by simp) (by rintro _ _ (⟨w,_,rfl,rfl⟩ | ⟨_,rfl,rfl⟩) <;> simp) (by intro i hi; obtain rfl : i = 0 := (by omega); simp only [go_sem]) ?_
  rintro _ _ (⟨w,hw,rfl,rfl⟩ | ⟨hw,rfl,rfl⟩)
  · simp only [go_sem]
    have hwi := worldNew_ok hw
    obtain ⟨_,_,hz,hn0⟩ := worldNew_is hw
    by_cases h60 : es.length ≤ 60
    · have hpl : worldPlay cs es = some (es.foldl wDo w) := by simp only [worldPlay,hw]; rw [if_pos h60]
      have h60' : ¬ (60 : Int) < es.length := by omega
      rw [hpl]
      simp only [eq_false h60',go_sem,Option.isSome_some,Option.getD_some]
      with_reducible repeat' (first | refine br ?_ ?_ <;> intro h e <;> (try simp only [e,go_sem]) <;> clear e | rw [i64w (by omega)] | (first | refine sk ?_ | refine sd ?_) <;> try simp only [go_sem] | fail)
      refine loopN (fun a : Nat × M.World => ⟨getL [(4,.pv 1004 0),(6,.pv 1006 0),(23,.sl 11 (es.map Ev.row)),(24,.int .i64 es.length),(25,.int .i64 (a.1 : Int))],getH [(1004,.var 33 [.nils,.nils,.nils,.nils]),(1006,.var 33 [.own 101200 a.2.convs.length,.sl 3 (a.2.door.map.map Pair.row),.own 200001 a.2.door.flows.length,.own 200003 a.2.nets.length]),(200001,.arr 91 8 (a.2.door.flows.map Flw.row)),(101200,.arr 42 10 (a.2.convs.map Conv.row)),(200003,.arr 40 7 (a.2.nets.map Pk.row))]⟩)
        (fun a => es.length - a.1) (fun a => a.1 ≤ es.length ∧ WI a.2 ∧ es.foldl wDo w = (es.drop a.1).foldl wDo a.2) (0,w)
        (St.le_trans (nilOwn (row := [.own 101200 w.convs.length,.nils,.nils,.nils]) 1006 200001 91 8 33 2 (by simp only [go_sem]) (by decide) (by simp only [go_sem]) rfl) (St.le_trans (nilOwn (row := [.own 101200 w.convs.length,.nils,.own 200001 0,.nils]) 1006 200003 40 7 33 3 (by simp only [go_sem]) (by decide) (by simp only [go_sem,List.set_cons_succ,List.set_cons_zero]) rfl) (leN [] (by simp only [go_sem]) (by simp only [go_sem,hz,hn0,Door.zero,List.set_cons_succ,List.set_cons_zero]) (by simp [getN]) (by simp only [go_sem])))) ⟨Nat.zero_le _,hwi,by simp⟩ ?_
      intro ⟨k,v⟩ ⟨hk,hv,he⟩
      simp only at hk hv he
      simp only [go_sem]
      by_cases h : (k : Int) < es.length
      · have hil : k < es.length := by omega
        have hg : es.getD k default = es[k] := by simp [List.getD,hil]
        rw [List.drop_eq_getElem_cons hil] at he
        simp only [eq_true h,go_sem]
        with_reducible repeat' (first | refine br ?_ ?_ <;> intro h e <;> (try simp only [e,go_sem,hg]) <;> clear e | rw [i64w (by omega)] | (first | refine sk ?_ | refine sd ?_) <;> try simp only [go_sem,hg] | fail)
        refine callN (c32 v es[k] hv (heB _ (List.getElem_mem hil))) [1006,200001,101200,200003] [] true 30 4 (by simp only [go_sem]; first | done | simp) (by simp only [go_sem]; first | done | simp) (by simp) (by simp) (by simp) ?_ ?_ ?_
        · rintro _ _ ⟨rfl,v',hv',rfl⟩
          exact ⟨by simp,by simp,.inl rfl,fun i hi => by obtain rfl : i = 0 := (by omega); simp [chH,stepOk]⟩
        · intro i hi
          rcases (show i = 0 ∨ i = 1 ∨ i = 2 ∨ i = 3 by omega) with rfl | rfl | rfl | rfl <;> simp only [go_sem]
        rintro _ _ ⟨rfl,v',hv',rfl⟩
        simp only [go_sem]
        with_reducible repeat' (first | refine br ?_ ?_ <;> intro h e <;> (try simp only [e,go_sem]) <;> clear e | rw [i64w (by omega)] | (first | refine sk ?_ | refine sd ?_) <;> try simp only [go_sem] | fail)
        exact ⟨(k + 1,v'),by simp only; omega,⟨by simp only; omega,by rw [hv']; exact wDo_ok hv _,by rw [hv']; exact he⟩,leN [(101200,103002),(200001,103001),(200003,103003)] (by simp only [go_sem]; first | done | omega | rfl) (by simp only [go_sem]; first | done | omega | rfl) (by simp [getN]) (by simp only [go_sem])⟩
      · simp only [eq_false h,go_sem]
        have : k = es.length := by omega
        subst this
        rw [List.drop_length] at he
        rw [show es.foldl wDo w = v from he]
        refine callF (c33 v hv) [101200,200001,200003] true (by simp only [go_sem]; simp) (by simp only [List.mem_cons,List.not_mem_nil,or_false]; rintro c (rfl | rfl | rfl) <;> simp only [go_sem]) rfl (.inl rfl) ?_
        simp only [go_sem]
        with_reducible repeat' (first | refine br ?_ ?_ <;> intro h e <;> (try simp only [e,go_sem]) <;> clear e | rw [i64w (by omega)] | (first | refine sk ?_ | refine sd ?_) <;> try simp only [go_sem] | fail)
    · have hpl : worldPlay cs es = none := by simp only [worldPlay,hw]; rw [if_neg h60]
      have h60' : (60 : Int) < es.length := by omega
      rw [hpl]
      simp only [eq_true h60',go_sem]
      with_reducible repeat' (first | refine br ?_ ?_ <;> intro h e <;> (try simp only [e,go_sem]) <;> clear e | rw [i64w (by omega)] | (first | refine sk ?_ | refine sd ?_) <;> try simp only [go_sem] | fail)
      simp [World.zero,Door.zero]
  · have hpl : worldPlay cs es = none := by simp only [worldPlay,hw]
    rw [hpl]
    simp only [go_sem]
    with_reducible repeat' (first | refine br ?_ ?_ <;> intro h e <;> (try simp only [e,go_sem]) <;> clear e | rw [i64w (by omega)] | (first | refine sk ?_ | refine sd ?_) <;> try simp only [go_sem] | fail)
    simp [World.zero,Door.zero]
def rdH (code : B) (p : Int) : Hs := .var 120 [.sl 1 (code.map byR),.int .i64 p]
def rdQ (code : B) (p c : Int) (Q : V → Prop) (r : V) (o : List Hs) : Prop := ∃ p' : Int,p ≤ p' ∧ p' ≤ p + c ∧ o = [rdH code p'] ∧ Q r
theorem xor_nn {a b : Int} (ha : 0 ≤ a ∧ a < 1099511627776) (hb : 0 ≤ b ∧ b < 1099511627776) : 0 ≤ bits .xor .i64 a b := by
  obtain ⟨x,rfl⟩ := Int.eq_ofNat_of_zero_le ha.1
  obtain ⟨y,rfl⟩ := Int.eq_ofNat_of_zero_le hb.1
  have hx : x < 2 ^ 40 := by omega
  have hy : y < 2 ^ 40 := by omega
  have hz := Nat.xor_lt_two_pow hx hy
  unfold bits
  simp only [BitVec.toNat_xor,BitVec.toNat_ofInt]
  have e1 : ((x : Int) % (2 ^ IntKind.i64.bits : Nat)).toNat = x := by
    rw [show (2 ^ IntKind.i64.bits : Nat) = 18446744073709551616 from rfl]; omega
  have e2 : ((y : Int) % (2 ^ IntKind.i64.bits : Nat)).toNat = y := by
    rw [show (2 ^ IntKind.i64.bits : Nat) = 18446744073709551616 from rfl]; omega
  rw [e1,e2,i64w (by omega)]
  omega
def ic30 : IC := sR [oP 4 (.mv (.c i0))] (sR [mV 7 0,mV 8 0,oP 9 (.nilc (.t 8)),fD 10 1 9,lD 11 1 10,oP 12 (.bin .add (.t 11) (.c (.int .i64 1))),oP 13 (.nilc (.t 7)),fD 14 1 13,nP (.sto 1 (.t 14) (.t 12))] (.seq (sR [mV 15 1,oP 16 (.bin .lss (.t 15) (.c (.int .i64 1))),mV 17 16,⟨some 18,some (17,false),.mv (.t 0)⟩,⟨some 19,some (17,false),.nilc (.t 18)⟩,⟨some 20,some (17,false),.fad 0 (.t 19)⟩,⟨some 21,some (17,false),.ld 1 false (.t 20)⟩,⟨some 22,some (17,false),.len (.t 21)⟩,⟨some 23,some (17,false),.bin .eql (.t 22) (.c i0)⟩,oP 24 (.pick (.t 17) (.c (.bool true)) (.t 23))] (.cond (.t 24) (sR [oP 4 (.mv (.c i0))] .ret) .skip)) (sR [mV 25 0,oP 26 (.nilc (.t 25)),fD 27 1 26,lD 28 1 27,oP 29 (.bin .sub (.t 28) (.c (.int .i64 1))),mV 5 29] (.seq (sR [mV 30 5,mV 31 0,oP 32 (.nilc (.t 31)),fD 33 0 32,lD 34 1 33,oP 35 (.len (.t 34)),bN 36 .lss 30 35] (.cond (.t 36) (sR [mV 37 0,oP 38 (.nilc (.t 37)),fD 39 0 38,lD 40 1 39,mV 41 5,oP 42 (.iad 1 (.t 40) (.t 41)),lD 43 1 42,oP 44 (.cvi .i64 (.t 43)),mV 45 1,bN 46 .rem 44 45,mV 4 46] .ret) .skip)) (.seq (.drw [0,1,3,7,0,0,32,96,224,480,1008,2047,4095,8191,16383,0,32768,98304,229376,0,524288,1572864,0,4194304,12582912,29360128,62914560,133693440,268402688,536838144,1073709056,2147450880,4294967295,0,8589934592,34359738367,0,0,137438953472,412316860416,962072674304,2061584302080,4329327034368,8727373545472,17592186044415,35184372088831] [(0,mV 47 0),(1,oP 48 (.nilc (.t 47))),(2,fD 49 0 48),(3,lD 50 1 49),(4,mV 51 5),(5,mV 52 0),(6,oP 53 (.nilc (.t 52))),(7,fD 54 0 53),(8,lD 55 1 54),(9,oP 56 (.len (.t 55))),(10,bN 57 .rem 51 56),(11,oP 58 (.iad 1 (.t 50) (.t 57))),(12,lD 59 1 58),(13,oP 60 (.cvi .i64 (.t 59))),(14,oP 61 (.bin .mul (.t 60) (.c (.int .i64 131)))),(15,mV 62 0),(16,oP 63 (.nilc (.t 62))),(17,fD 64 0 63),(18,lD 65 1 64),(19,mV 66 5),(20,oP 67 (.bin .mul (.t 66) (.c (.int .i64 7)))),(21,oP 68 (.bin .add (.t 67) (.c (.int .i64 3)))),(22,mV 69 0),(23,oP 70 (.nilc (.t 69))),(24,fD 71 0 70),(25,lD 72 1 71),(26,oP 73 (.len (.t 72))),(27,bN 74 .rem 68 73),(28,oP 75 (.iad 1 (.t 65) (.t 74))),(29,lD 76 1 75),(30,oP 77 (.cvi .i64 (.t 76))),(31,oP 78 (.bin .mul (.t 77) (.c (.int .i64 1117)))),(32,bN 79 .add 61 78),(33,mV 80 5),(34,oP 81 (.bin .mul (.t 80) (.c (.int .i64 29)))),(35,bN 82 .add 79 81),(36,mV 83 5),(37,mV 84 0),(38,oP 85 (.nilc (.t 84))),(39,fD 86 0 85),(40,lD 87 1 86),(41,oP 88 (.len (.t 87))),(42,bN 89 .quo 83 88),(43,oP 90 (.bin .mul (.t 89) (.c (.int .i64 53)))),(44,bN 91 .add 82 90),(45,mV 6 91)]) (sR [mV 92 6,mV 93 6,oP 94 (.bin .quo (.t 93) (.c (.int .i64 64))),bN 95 .xor 92 94,mV 6 95] (sR [mV 96 6,mV 97 1,bN 98 .rem 96 97,mV 4 98] .ret)))))))
theorem dg30 : digF Tryz.prog Tryz.f30 = some (ic30,[(.t 4)]) := by kernel_rfl
theorem en30 : entr Tryz.prog 30 = true := by kernel_rfl
theorem c30 (code : B) (p n : Int) (hc : code.length ≤ 2000) (hp : 0 ≤ p ∧ p ≤ 1000000000) (hn : n ≤ 1000000) : FnP Tryz.prog G 30 1 [rdH code p] [.pv 0 0,.int .i64 n]
    (fun r o => ∃ k : Int,0 ≤ k ∧ (1 ≤ n → k < n) ∧ r = .int .i64 k ∧ o = [rdH code (p + 1)]) := by
  refine FnP.mk' Tryz.func30 en30 dg30 Tryz.ntmps30 (by simp) ⟨_,_,0,by omega,by omega,rfl,rfl⟩ ?_
  simp only [ic30,go_sem,rdH]
  have t1 : ∀ a : Int,0 ≤ a → 0 ≤ a.tmod code.length := fun a h => Int.tmod_nonneg _ h
  have t2 : ∀ a : Int,0 ≤ a → 0 < (code.length : Int) → a.tmod code.length < code.length := fun a _ h => Int.tmod_lt_of_pos _ h
  have hpp : p + 1 - 1 = p := by omega
  have t3 : (code.length : Int) ≠ 0 → 0 ≤ p.tdiv code.length ∧ p.tdiv code.length ≤ p := fun h => ⟨Int.tdiv_nonneg hp.1 (by omega),Int.tdiv_le_self _ hp.1⟩
  have b8 : ∀ b : UInt8,IntKind.i64.wrap (b.toNat : Int) = b.toNat := fun b => i64w (by have := b.toNat_lt; omega)
  have b1 := (code.getD (p.tmod code.length).toNat default).toNat_lt
  have b2 := (code.getD ((p * 7 + 3).tmod code.length).toNat default).toNat_lt
  have b3 := (code.getD p.toNat default).toNat_lt
  have t4 := t1 p hp.1
  have t5 := t2 p hp.1
  have t6 := t1 (p * 7 + 3) (by omega)
  have t7 := t2 (p * 7 + 3) (by omega)
  clear t1 t2
  with_reducible repeat' (first | rw [i64w (by omega)]; try simp only [go_sem,hpp,byR,b8] | refine br ?_ ?_ <;> intro h e <;> (try simp only [e,go_sem,hpp,byR,b8]) <;> clear e | (first | refine sk ?_ | refine sd ?_) <;> try simp only [go_sem,hpp,byR,b8] | fail)
  · exact retN (.int .i64 0) [rdH code (p + 1)] [] (by simp only [go_sem]) ⟨0,by omega,by omega,rfl,rfl⟩ (by simp only [go_sem,rdH]) (by simp [argH,getN,rdH]) (by simp only [go_sem,rdH])
  · exact retN (.int .i64 0) [rdH code (p + 1)] [] (by simp only [go_sem]) ⟨0,by omega,by omega,rfl,rfl⟩ (by simp only [go_sem,rdH]) (by simp [argH,getN,rdH]) (by simp only [go_sem,rdH])
  · exact retN (.int .i64 (((code.getD p.toNat default).toNat : Int).tmod n)) [rdH code (p + 1)] [] (by simp only [go_sem]) ⟨_,Int.tmod_nonneg _ (Int.natCast_nonneg _),fun h => Int.tmod_lt_of_pos _ (by omega),rfl,rfl⟩ (by simp only [go_sem,rdH]) (by simp [argH,getN,rdH]) (by simp only [go_sem,rdH])
  have hl : (code.length : Int) ≠ 0 := by assumption
  have t3 := t3 hl
  have t5 := t5 (by omega)
  have t7 := t7 (by omega)
  generalize hT : p.tdiv code.length = T at *
  have w1 : IntKind.i64.wrap (p * 7) = p * 7 := i64w (by omega)
  have w2 : IntKind.i64.wrap (p * 7 + 3) = p * 7 + 3 := i64w (by omega)
  have w3 : ∀ b : UInt8,IntKind.i64.wrap ((b.toNat : Int) * 131) = b.toNat * 131 := fun b => i64w (by have := b.toNat_lt; omega)
  have w4 : ∀ b : UInt8,IntKind.i64.wrap ((b.toNat : Int) * 1117) = b.toNat * 1117 := fun b => i64w (by have := b.toNat_lt; omega)
  have w5 : ∀ a b : UInt8,IntKind.i64.wrap ((a.toNat : Int) * 131 + b.toNat * 1117) = a.toNat * 131 + b.toNat * 1117 := fun a b => i64w (by have := a.toNat_lt; have := b.toNat_lt; omega)
  have w6 : IntKind.i64.wrap (p * 29) = p * 29 := i64w (by omega)
  have w7 : ∀ a b : UInt8,IntKind.i64.wrap ((a.toNat : Int) * 131 + b.toNat * 1117 + p * 29) = a.toNat * 131 + b.toNat * 1117 + p * 29 := fun a b => i64w (by have := a.toNat_lt; have := b.toNat_lt; omega)
  have w8 : IntKind.i64.wrap T = T := i64w (by omega)
  have w9 : IntKind.i64.wrap (T * 53) = T * 53 := i64w (by omega)
  have w10 : ∀ a b : UInt8,IntKind.i64.wrap ((a.toNat : Int) * 131 + b.toNat * 1117 + p * 29 + T * 53) = a.toNat * 131 + b.toNat * 1117 + p * 29 + T * 53 := fun a b => i64w (by have := a.toNat_lt; have := b.toNat_lt; omega)
  simp only [w1,w2,w3]
  refine effG (by omega) ?_
  simp only [go_sem,byR]
  with_reducible repeat' (first | refine br ?_ ?_ <;> intro h e <;> (try simp only [e,go_sem,b8,byR,hT,w1,w2,w3,w4,w5,w6,w7,w8,w9,w10]) <;> clear e | rw [i64w (by omega)] | (first | refine sk ?_ | refine sd ?_) <;> try simp only [go_sem,b8,byR,hT,w1,w2,w3,w4,w5,w6,w7,w8,w9,w10] | fail)
  generalize hX : (((code.getD (p.tmod code.length).toNat default).toNat : Int) * 131 + (code.getD ((p * 7 + 3).tmod code.length).toNat default).toNat * 1117 + p * 29 + T * 53) = X
  have hX2 : 0 ≤ X ∧ X < 1099511627776 := by omega
  have hd1 : 0 ≤ X.tdiv 64 := Int.tdiv_nonneg hX2.1 (by omega)
  have hd2 : X.tdiv 64 ≤ X := Int.tdiv_le_self _ hX2.1
  have w11 : IntKind.i64.wrap (X.tdiv 64) = X.tdiv 64 := i64w (by omega)
  rw [w11]
  have hb := xor_nn hX2 (show 0 ≤ X.tdiv 64 ∧ X.tdiv 64 < 1099511627776 by omega)
  exact retN (.int .i64 ((bits .xor .i64 X (X.tdiv 64)).tmod n)) [rdH code (p + 1)] [] (by simp only [go_sem]) ⟨_,Int.tmod_nonneg _ hb,fun h => Int.tmod_lt_of_pos _ (by omega),rfl,rfl⟩ (by simp only [go_sem,rdH]) (by simp [argH,getN,rdH]) (by simp only [go_sem,rdH])
theorem pkN (code : B) (P N : Int) (dd : Nat) (hc : code.length ≤ 2000) {vs : List V} {d : Option Nat} {st : St} {K : St → List Nat → List Nat → Prop}
    (hk : ∀ k : Int,0 ≤ k → (1 ≤ N → k < N) → K (st.app d ((V.int .i64 k).rn (bk [0] 1 dd)) (outU (bk [0] 1 dd) 0 [rdH code (P + 1)] ++ deads ([0].drop 1 ++ bif true then [] else []))) (callTc [0] [] dd 1) (callTc [0] (bif true then [] else []) dd 1))
    (hp : 0 ≤ P ∧ P ≤ 1000000000 := by omega) (hn : N ≤ 1000000 := by omega)
    (hw : WkL (Wk (fun c => c ∈ []) (nsF [0]) st.h (chH [rdH code P])) vs [.pv 0 0,.int .i64 N] := by simp only [go_sem,rdH]; first | done | simp)
    (hs : NsL (fun n s => s.live = true ∧ WkH (fun c => c ∈ []) (nsF [0]) st.h (chH [rdH code P]) (st.h n) s) [0] [rdH code P] := by simp only [go_sem,rdH]; first | done | simp)
    (hf : ∀ i,i < 1 → st.h (newN dd i) = .fresh := by intro i hi; obtain rfl : i = 0 := (by omega); simp only [go_sem]) : CallV Tryz.prog G 30 vs d st K := by
  refine callN (c30 code P N hc hp hn) [0] [] true dd 1 hw hs (by simp) (by simp) (by simp) ?_ hf ?_
  · rintro _ _ ⟨k,_,_,rfl,rfl⟩; exact ⟨by simp,by simp,.inl rfl,fun i hi => by obtain rfl : i = 0 := (by omega); simp [chH,stepOk,rdH]⟩
  · rintro _ _ ⟨k,k1,k2,rfl,rfl⟩
    exact hk k k1 k2
def endQ (r : V) : Prop := ∃ e : E,(0 ≤ e.a ∧ e.a ≤ 12) ∧ (0 ≤ e.p ∧ e.p ≤ 20) ∧ r = .agg [.int .i64 e.a,.int .i64 e.p]
def ic159 : IC := sR [oP 2 (.alloc 38 [i0,i0])] (.seq (sR [mV 3 0,oP 4 (.call 30 [.t 3,.c (.int .i64 12)])] (.block 0 (.seq (sR [oP 6 (.bin .eql (.t 4) (.c i0)),mV 5 6] (.cond (.t 5) .skip (sR [oP 7 (.bin .eql (.t 4) (.c (.int .i64 1))),mV 5 7] (.cond (.t 5) .skip (sR [oP 8 (.bin .eql (.t 4) (.c (.int .i64 2))),mV 5 8] (.cond (.t 5) .skip (.reg [oP 9 (.bin .eql (.t 4) (.c (.int .i64 3))),mV 5 9]))))))) (.cond (.t 5) (sR [mV 10 0,oP 11 (.call 30 [.t 10,.c (.int .i64 3)]),oP 12 (.bin .add (.c (.int .i64 1)) (.t 11)),mV 13 0,oP 14 (.call 30 [.t 13,.c (.int .i64 9)]),oP 15 (.bin .add (.c (.int .i64 1)) (.t 14)),oP 16 (.build [i0,i0] [(0,(1,.t 12)),(1,(1,.t 15))]),nP (.sto 2 (.t 2) (.t 16))] .ret) (.seq (sR [oP 18 (.bin .eql (.t 4) (.c (.int .i64 4))),mV 17 18] (.cond (.t 17) .skip (sR [oP 19 (.bin .eql (.t 4) (.c (.int .i64 5))),mV 17 19] (.cond (.t 17) .skip (.reg [oP 20 (.bin .eql (.t 4) (.c (.int .i64 6))),mV 17 20]))))) (.cond (.t 17) (sR [mV 21 0,oP 22 (.call 30 [.t 21,.c (.int .i64 3)]),oP 23 (.bin .add (.c (.int .i64 4)) (.t 22)),mV 24 0,oP 25 (.call 30 [.t 24,.c (.int .i64 9)]),oP 26 (.bin .add (.c (.int .i64 1)) (.t 25)),oP 27 (.build [i0,i0] [(0,(1,.t 23)),(1,(1,.t 26))]),nP (.sto 2 (.t 2) (.t 27))] .ret) (.seq (sR [oP 29 (.bin .eql (.t 4) (.c (.int .i64 7))),mV 28 29] (.cond (.t 28) .skip (sR [oP 30 (.bin .eql (.t 4) (.c (.int .i64 8))),mV 28 30] (.cond (.t 28) .skip (sR [oP 31 (.bin .eql (.t 4) (.c (.int .i64 9))),mV 28 31] (.cond (.t 28) .skip (.reg [oP 32 (.bin .eql (.t 4) (.c (.int .i64 10))),mV 28 32]))))))) (.cond (.t 28) (sR [mV 33 0,oP 34 (.call 30 [.t 33,.c (.int .i64 8)]),oP 35 (.bin .add (.c (.int .i64 10)) (.t 34)),oP 36 (.build [i0,i0] [(0,(1,.c (.int .i64 9))),(1,(1,.t 35))]),nP (.sto 2 (.t 2) (.t 36))] .ret) .skip)))))))) (sR [mV 37 0,oP 38 (.call 30 [.t 37,.c (.int .i64 12)]),mV 39 0,oP 40 (.call 30 [.t 39,.c (.int .i64 20)]),oP 41 (.build [i0,i0] [(0,(1,.t 38)),(1,(1,.t 40))]),nP (.sto 2 (.t 2) (.t 41))] .ret))
theorem dg159 : digF Tryz.prog Tryz.f159 = some (ic159,[(.cell 2 2 true)]) := by kernel_rfl
theorem en159 : entr Tryz.prog 159 = true := by kernel_rfl
theorem c159 (code : B) (p : Int) (hc : code.length ≤ 2000) (hp : 0 ≤ p ∧ p ≤ 900000000) : FnP Tryz.prog G 159 1 [rdH code p] [.pv 0 0] (rdQ code p 3 endQ) := by
  refine FnP.mk' Tryz.func159 en159 dg159 Tryz.ntmps159 (by simp) ⟨_,_,p,by omega,by omega,rfl,⟨0,0⟩,by simp,by simp,rfl⟩ ?_
  have fin : ∀ l mm (p' a b : Int),p ≤ p' ∧ p' ≤ p + 3 → (0 ≤ a ∧ a ≤ 12) → (0 ≤ b ∧ b ≤ 20) → getL l 2 = .pv 1002 0 → getH mm 1002 = .var 38 [.int .i64 a,.int .i64 b] → getH mm 0 = .var 120 [.sl 1 (code.map byR),.int .i64 p'] →
      retQ [.cell 2 2 true] 1 (rdQ code p 3 endQ) .ret ⟨getL l,getH mm⟩ := fun l mm p' a b h1 h2 h3 h4 h5 h6 => by
    refine retN (.agg [.int .i64 a,.int .i64 b]) [rdH code p'] [] ?_ ⟨p',h1.1,h1.2,rfl,⟨a,b⟩,h2,h3,rfl⟩ ?_ (by simp [argH,getN,rdH]) (by simp only [go_sem,rdH])
    · simp only [go_sem,h4,h5]
    · simp only [go_sem,h6,rdH]
  simp only [ic159,go_sem,rdH]
  refine pkN code p 12 4 hc fun k k1 k2 => ?_
  simp only [go_sem,rdH]
  with_reducible repeat' (first | rw [i64w (by omega)]; try simp only [go_sem] | refine br ?_ ?_ <;> intro h e <;> (try simp only [e,go_sem]) <;> clear e | (first | refine sk ?_ | refine sd ?_) <;> try simp only [go_sem] | fail)
  · have := 0
    refine pkN code (p + 1) 3 11 hc fun a a1 a2 => ?_
    simp only [go_sem,rdH]
    have a2 := a2 (by omega)
    with_reducible repeat' (first | rw [i64w (by omega)]; try simp only [go_sem] | refine br ?_ ?_ <;> intro h e <;> (try simp only [e,go_sem]) <;> clear e | (first | refine sk ?_ | refine sd ?_) <;> try simp only [go_sem] | fail)
    refine pkN code (p + 1 + 1) 9 14 hc fun b b1 b2 => ?_
    simp only [go_sem,rdH]
    have b2 := b2 (by omega)
    with_reducible repeat' (first | rw [i64w (by omega)]; try simp only [go_sem] | refine br ?_ ?_ <;> intro h e <;> (try simp only [e,go_sem]) <;> clear e | (first | refine sk ?_ | refine sd ?_) <;> try simp only [go_sem] | fail)
    exact fin _ _ (p + 1 + 1 + 1) (1 + a) (1 + b) (by omega) (by omega) (by omega) (by simp only [go_sem]) (by simp only [go_sem]) (by simp only [go_sem])
  · have := 0
    refine pkN code (p + 1) 3 11 hc fun a a1 a2 => ?_
    simp only [go_sem,rdH]
    have a2 := a2 (by omega)
    with_reducible repeat' (first | rw [i64w (by omega)]; try simp only [go_sem] | refine br ?_ ?_ <;> intro h e <;> (try simp only [e,go_sem]) <;> clear e | (first | refine sk ?_ | refine sd ?_) <;> try simp only [go_sem] | fail)
    refine pkN code (p + 1 + 1) 9 14 hc fun b b1 b2 => ?_
    simp only [go_sem,rdH]
    have b2 := b2 (by omega)
    with_reducible repeat' (first | rw [i64w (by omega)]; try simp only [go_sem] | refine br ?_ ?_ <;> intro h e <;> (try simp only [e,go_sem]) <;> clear e | (first | refine sk ?_ | refine sd ?_) <;> try simp only [go_sem] | fail)
    exact fin _ _ (p + 1 + 1 + 1) (1 + a) (1 + b) (by omega) (by omega) (by omega) (by simp only [go_sem]) (by simp only [go_sem]) (by simp only [go_sem])
  · have := 0
    refine pkN code (p + 1) 3 11 hc fun a a1 a2 => ?_
    simp only [go_sem,rdH]
    have a2 := a2 (by omega)
    with_reducible repeat' (first | rw [i64w (by omega)]; try simp only [go_sem] | refine br ?_ ?_ <;> intro h e <;> (try simp only [e,go_sem]) <;> clear e | (first | refine sk ?_ | refine sd ?_) <;> try simp only [go_sem] | fail)
    refine pkN code (p + 1 + 1) 9 14 hc fun b b1 b2 => ?_
    simp only [go_sem,rdH]
    have b2 := b2 (by omega)
    with_reducible repeat' (first | rw [i64w (by omega)]; try simp only [go_sem] | refine br ?_ ?_ <;> intro h e <;> (try simp only [e,go_sem]) <;> clear e | (first | refine sk ?_ | refine sd ?_) <;> try simp only [go_sem] | fail)
    exact fin _ _ (p + 1 + 1 + 1) (1 + a) (1 + b) (by omega) (by omega) (by omega) (by simp only [go_sem]) (by simp only [go_sem]) (by simp only [go_sem])
  · have := 0
    refine pkN code (p + 1) 3 11 hc fun a a1 a2 => ?_
    simp only [go_sem,rdH]
    have a2 := a2 (by omega)
    with_reducible repeat' (first | rw [i64w (by omega)]; try simp only [go_sem] | refine br ?_ ?_ <;> intro h e <;> (try simp only [e,go_sem]) <;> clear e | (first | refine sk ?_ | refine sd ?_) <;> try simp only [go_sem] | fail)
    refine pkN code (p + 1 + 1) 9 14 hc fun b b1 b2 => ?_
    simp only [go_sem,rdH]
    have b2 := b2 (by omega)
    with_reducible repeat' (first | rw [i64w (by omega)]; try simp only [go_sem] | refine br ?_ ?_ <;> intro h e <;> (try simp only [e,go_sem]) <;> clear e | (first | refine sk ?_ | refine sd ?_) <;> try simp only [go_sem] | fail)
    exact fin _ _ (p + 1 + 1 + 1) (1 + a) (1 + b) (by omega) (by omega) (by omega) (by simp only [go_sem]) (by simp only [go_sem]) (by simp only [go_sem])
  · have := 0
    refine pkN code (p + 1) 3 22 hc fun a a1 a2 => ?_
    simp only [go_sem,rdH]
    have a2 := a2 (by omega)
    with_reducible repeat' (first | rw [i64w (by omega)]; try simp only [go_sem] | refine br ?_ ?_ <;> intro h e <;> (try simp only [e,go_sem]) <;> clear e | (first | refine sk ?_ | refine sd ?_) <;> try simp only [go_sem] | fail)
    refine pkN code (p + 1 + 1) 9 25 hc fun b b1 b2 => ?_
    simp only [go_sem,rdH]
    have b2 := b2 (by omega)
    with_reducible repeat' (first | rw [i64w (by omega)]; try simp only [go_sem] | refine br ?_ ?_ <;> intro h e <;> (try simp only [e,go_sem]) <;> clear e | (first | refine sk ?_ | refine sd ?_) <;> try simp only [go_sem] | fail)
    exact fin _ _ (p + 1 + 1 + 1) (4 + a) (1 + b) (by omega) (by omega) (by omega) (by simp only [go_sem]) (by simp only [go_sem]) (by simp only [go_sem])
  · have := 0
    refine pkN code (p + 1) 3 22 hc fun a a1 a2 => ?_
    simp only [go_sem,rdH]
    have a2 := a2 (by omega)
    with_reducible repeat' (first | rw [i64w (by omega)]; try simp only [go_sem] | refine br ?_ ?_ <;> intro h e <;> (try simp only [e,go_sem]) <;> clear e | (first | refine sk ?_ | refine sd ?_) <;> try simp only [go_sem] | fail)
    refine pkN code (p + 1 + 1) 9 25 hc fun b b1 b2 => ?_
    simp only [go_sem,rdH]
    have b2 := b2 (by omega)
    with_reducible repeat' (first | rw [i64w (by omega)]; try simp only [go_sem] | refine br ?_ ?_ <;> intro h e <;> (try simp only [e,go_sem]) <;> clear e | (first | refine sk ?_ | refine sd ?_) <;> try simp only [go_sem] | fail)
    exact fin _ _ (p + 1 + 1 + 1) (4 + a) (1 + b) (by omega) (by omega) (by omega) (by simp only [go_sem]) (by simp only [go_sem]) (by simp only [go_sem])
  · have := 0
    refine pkN code (p + 1) 3 22 hc fun a a1 a2 => ?_
    simp only [go_sem,rdH]
    have a2 := a2 (by omega)
    with_reducible repeat' (first | rw [i64w (by omega)]; try simp only [go_sem] | refine br ?_ ?_ <;> intro h e <;> (try simp only [e,go_sem]) <;> clear e | (first | refine sk ?_ | refine sd ?_) <;> try simp only [go_sem] | fail)
    refine pkN code (p + 1 + 1) 9 25 hc fun b b1 b2 => ?_
    simp only [go_sem,rdH]
    have b2 := b2 (by omega)
    with_reducible repeat' (first | rw [i64w (by omega)]; try simp only [go_sem] | refine br ?_ ?_ <;> intro h e <;> (try simp only [e,go_sem]) <;> clear e | (first | refine sk ?_ | refine sd ?_) <;> try simp only [go_sem] | fail)
    exact fin _ _ (p + 1 + 1 + 1) (4 + a) (1 + b) (by omega) (by omega) (by omega) (by simp only [go_sem]) (by simp only [go_sem]) (by simp only [go_sem])
  · have := 0
    refine pkN code (p + 1) 8 34 hc fun a a1 a2 => ?_
    simp only [go_sem,rdH]
    have a2 := a2 (by omega)
    with_reducible repeat' (first | rw [i64w (by omega)]; try simp only [go_sem] | refine br ?_ ?_ <;> intro h e <;> (try simp only [e,go_sem]) <;> clear e | (first | refine sk ?_ | refine sd ?_) <;> try simp only [go_sem] | fail)
    exact fin _ _ (p + 1 + 1) (9) (10 + a) (by omega) (by omega) (by omega) (by simp only [go_sem]) (by simp only [go_sem]) (by simp only [go_sem])
  · have := 0
    refine pkN code (p + 1) 8 34 hc fun a a1 a2 => ?_
    simp only [go_sem,rdH]
    have a2 := a2 (by omega)
    with_reducible repeat' (first | rw [i64w (by omega)]; try simp only [go_sem] | refine br ?_ ?_ <;> intro h e <;> (try simp only [e,go_sem]) <;> clear e | (first | refine sk ?_ | refine sd ?_) <;> try simp only [go_sem] | fail)
    exact fin _ _ (p + 1 + 1) (9) (10 + a) (by omega) (by omega) (by omega) (by simp only [go_sem]) (by simp only [go_sem]) (by simp only [go_sem])
  · have := 0
    refine pkN code (p + 1) 8 34 hc fun a a1 a2 => ?_
    simp only [go_sem,rdH]
    have a2 := a2 (by omega)
    with_reducible repeat' (first | rw [i64w (by omega)]; try simp only [go_sem] | refine br ?_ ?_ <;> intro h e <;> (try simp only [e,go_sem]) <;> clear e | (first | refine sk ?_ | refine sd ?_) <;> try simp only [go_sem] | fail)
    exact fin _ _ (p + 1 + 1) (9) (10 + a) (by omega) (by omega) (by omega) (by simp only [go_sem]) (by simp only [go_sem]) (by simp only [go_sem])
  · have := 0
    refine pkN code (p + 1) 8 34 hc fun a a1 a2 => ?_
    simp only [go_sem,rdH]
    have a2 := a2 (by omega)
    with_reducible repeat' (first | rw [i64w (by omega)]; try simp only [go_sem] | refine br ?_ ?_ <;> intro h e <;> (try simp only [e,go_sem]) <;> clear e | (first | refine sk ?_ | refine sd ?_) <;> try simp only [go_sem] | fail)
    exact fin _ _ (p + 1 + 1) (9) (10 + a) (by omega) (by omega) (by omega) (by simp only [go_sem]) (by simp only [go_sem]) (by simp only [go_sem])
  · have := 0
    refine pkN code (p + 1) 12 38 hc fun a a1 a2 => ?_
    simp only [go_sem,rdH]
    have a2 := a2 (by omega)
    with_reducible repeat' (first | rw [i64w (by omega)]; try simp only [go_sem] | refine br ?_ ?_ <;> intro h e <;> (try simp only [e,go_sem]) <;> clear e | (first | refine sk ?_ | refine sd ?_) <;> try simp only [go_sem] | fail)
    refine pkN code (p + 1 + 1) 20 40 hc fun b b1 b2 => ?_
    simp only [go_sem,rdH]
    have b2 := b2 (by omega)
    with_reducible repeat' (first | rw [i64w (by omega)]; try simp only [go_sem] | refine br ?_ ?_ <;> intro h e <;> (try simp only [e,go_sem]) <;> clear e | (first | refine sk ?_ | refine sd ?_) <;> try simp only [go_sem] | fail)
    exact fin _ _ (p + 1 + 1 + 1) (a) (b) (by omega) (by omega) (by omega) (by simp only [go_sem]) (by simp only [go_sem]) (by simp only [go_sem])
def ic122 : IC := sR [oP 4 (.mv (.c s0))] (sR [mV 5 1,mV 6 0,mV 7 1,oP 8 (.len (.t 7)),oP 9 (.call 30 [.t 6,.t 8]),oP 10 (.iad 1 (.t 5) (.t 9)),lD 11 1 10,mV 4 11] .ret)
theorem dg122 : digF Tryz.prog Tryz.f122 = some (ic122,[(.t 4)]) := by kernel_rfl
theorem en122 : entr Tryz.prog 122 = true := by kernel_rfl
theorem c122 (code : B) (p : Int) (xs : List B) (hc : code.length ≤ 2000) (hp : 0 ≤ p ∧ p ≤ 900000000) (hx : 1 ≤ xs.length ∧ xs.length ≤ 1000) : FnP Tryz.prog G 122 1 [rdH code p] [.pv 0 0,.sl 1 (xs.map fun x => [.str x])] (rdQ code p 1 fun r => ∃ x,x ∈ xs ∧ r = .str x) := by
  obtain ⟨x0,hx0⟩ : ∃ x,x ∈ xs := ⟨xs[0],List.getElem_mem _⟩
  refine FnP.mk' Tryz.func122 en122 dg122 Tryz.ntmps122 (by simp) ⟨_,_,p,by omega,by omega,rfl,x0,hx0,rfl⟩ ?_
  simp only [ic122,go_sem,rdH]
  refine pkN code p xs.length 9 hc fun k k1 k2 => ?_
  simp only [go_sem,rdH]
  have k2 := k2 (by omega)
  refine effG (by omega) ?_
  have hk : k.toNat < xs.length := by omega
  have hg : xs.getD k.toNat default = xs[k.toNat] := by simp [List.getD,hk]
  simp only [go_sem,hg]
  exact retN (.str xs[k.toNat]) [rdH code (p + 1)] [] (by simp only [go_sem]) ⟨p + 1,by omega,by omega,rfl,_,List.getElem_mem _,rfl⟩ (by simp only [go_sem,rdH]) (by simp [argH,getN,rdH]) (by simp only [go_sem,rdH])
def strQ (n : Nat) (r : V) : Prop := ∃ s : B,s.length ≤ n ∧ r = .str s
def bits10 : List B := [[97],[98,99],[64],[64,49],[59],[58,53],[120,49],[64,64],[64,49,58],[55]]
theorem bits10_le : ∀ x ∈ bits10,x.length ≤ 3 := by decide
def ic127 : IC := sR [oP 4 (.mv (.c s0))] (sR [oP 5 (.mv (.c s0))] (.seq (sR [mV 8 0,oP 9 (.call 30 [.t 8,.c (.int .i64 7)]),mV 6 9] (.block 0 (.loop (.seq (sR [mV 10 6,oP 11 (.bin .gtr (.t 10) (.c i0))] (.cond (.t 11) .skip (.exit 0))) (.seq (.block 1 (sR [mV 14 0,oP 15 (.bsl 9 1 [.c (.str [97]),.c (.str [98,99]),.c (.str [64]),.c (.str [64,49]),.c (.str [59]),.c (.str [58,53]),.c (.str [120,49]),.c (.str [64,64]),.c (.str [64,49,58]),.c (.str [55])]),oP 16 (.call 122 [.t 14,.t 15]),mV 7 16] (.seq (sR [mV 17 0,oP 18 (.call 30 [.t 17,.c (.int .i64 5)]),oP 19 (.bin .lss (.t 18) (.c (.int .i64 3)))] (.cond (.t 19) (.reg [mV 20 0,oP 21 (.call 159 [.t 20]),oP 22 (.call 125 [.t 21]),oP 23 (.bin .add (.c (.str [64])) (.t 22)),oP 24 (.bin .add (.t 23) (.c (.str [59]))),mV 7 24]) .skip)) (sR [mV 25 5,oP 26 (.lens (.t 25)),mV 27 7,oP 28 (.lens (.t 27)),bN 29 .add 26 28,mV 30 1,bN 31 .leq 29 30] (.cond (.t 31) (.reg [mV 32 5,mV 33 7,bN 34 .add 32 33,mV 5 34]) .skip))))) (.reg [mV 12 6,oP 13 (.bin .sub (.t 12) (.c (.int .i64 1))),mV 6 13])))))) (sR [mV 35 5,mV 4 35] .ret)))
theorem dg127 : digF Tryz.prog Tryz.f127 = some (ic127,[(.t 4)]) := by kernel_rfl
theorem en127 : entr Tryz.prog 127 = true := by kernel_rfl
theorem c127 (code : B) (p m : Int) (hc : code.length ≤ 2000) (hp : 0 ≤ p ∧ p ≤ 800000000) (hm : 0 ≤ m ∧ m ≤ 40) : FnP Tryz.prog G 127 1 [rdH code p] [.pv 0 0,.int .i64 m] (rdQ code p 31 (strQ 40)) := by
  refine FnP.mk' Tryz.func127 en127 dg127 Tryz.ntmps127 (by simp) ⟨_,_,p,by omega,by omega,rfl,[],by simp,rfl⟩ ?_
  simp only [ic127,go_sem,rdH]
  refine pkN code p 7 9 hc fun k k1 k2 => ?_
  simp only [go_sem,rdH]
  have k2 := k2 (by omega)
  refine loopN (fun a : B × Int × Int => ⟨getL [(0,.pv 0 0),(1,.int .i64 m),(5,.str a.1),(6,.int .i64 a.2.1)],getH [(0,.var 120 [.sl 1 (code.map byR),.int .i64 a.2.2])]⟩) (fun a => a.2.1.toNat) (fun a => (0 ≤ a.2.1 ∧ a.2.1 ≤ 6) ∧ (p ≤ a.2.2 ∧ a.2.2 ≤ p + 1 + 5 * (6 - a.2.1)) ∧ a.1.length ≤ 40) ([],k,p + 1) (leQ []) (by simp; omega) ?_
  intro ⟨s,n,q⟩ ⟨h1,h2,h3⟩
  simp only at h1 h2 h3
  simp only [go_sem]
  with_reducible repeat' (first | rw [i64w (by omega)]; try simp only [go_sem] | refine br ?_ ?_ <;> intro h e <;> (try simp only [e,go_sem]) <;> clear e | (first | refine sk ?_ | refine sd ?_) <;> try simp only [go_sem] | fail)
  · refine callN (c122 code q bits10 hc (by omega) (by decide)) [0] [1015] true 16 1 (by simp only [go_sem,rdH,bits10,List.mem_singleton]; first | done | simp) (by simp only [go_sem,rdH]; first | done | simp) (by simp) (by simp) (by simp only [List.mem_singleton]; rintro c rfl; exact ⟨rfl,by simp⟩) ?_ ?_ ?_
    · rintro _ _ ⟨q',_,_,rfl,_⟩
      exact ⟨by simp,by simp,.inl rfl,fun i hi => by obtain rfl : i = 0 := (by omega); simp [chH,stepOk,rdH]⟩
    · intro i hi; obtain rfl : i = 0 := (by omega); simp only [go_sem]
    rintro _ _ ⟨q',q1,q2,rfl,x,hx,rfl⟩
    have hxl := bits10_le x hx
    simp only [go_sem,rdH]
    refine pkN code q' 5 18 hc fun j j1 j2 => ?_
    simp only [go_sem,rdH]
    with_reducible repeat' (first | rw [i64w (by omega)]; try simp only [go_sem] | refine br ?_ ?_ <;> intro h e <;> (try simp only [e,go_sem]) <;> clear e | (first | refine sk ?_ | refine sd ?_) <;> try simp only [go_sem] | fail)
    · refine callN (c159 code (q' + 1) hc (by omega)) [0] [] true 21 1 (by simp only [go_sem,rdH]; first | done | simp) (by simp only [go_sem,rdH]; first | done | simp) (by simp) (by simp) (by simp) ?_ ?_ ?_
      · rintro _ _ ⟨q',_,_,rfl,_⟩
        exact ⟨by simp,by simp,.inl rfl,fun i hi => by obtain rfl : i = 0 := (by omega); simp [chH,stepOk,rdH]⟩
      · intro i hi; obtain rfl : i = 0 := (by omega); simp only [go_sem]
      rintro _ _ ⟨q3,q4,q5,rfl,e,he1,he2,rfl⟩
      have hte := text_le (e := e)
      simp only [go_sem,rdH]
      refine callR (c125 e.a e.p) rfl rfl ?_
      simp only [go_sem]
      clear hx hxl
      generalize e.text = w at *
      refine pureG (by omega) ?_
      simp only [go_sem]
      have hwl : (w ++ [59]).length = w.length + 1 := by simp
      with_reducible repeat' (first | rw [i64w (by omega)]; try simp only [go_sem,hwl] | refine br ?_ ?_ <;> intro h e <;> (try simp only [e,go_sem,hwl]) <;> clear e | (first | refine sk ?_ | refine sd ?_) <;> try simp only [go_sem,hwl] | fail)
      · exact ⟨(s ++ 64 :: (w ++ [59]),n - 1,q3),by simp only; omega,⟨by simp only; omega,by simp only; omega,by simp only [List.length_append,List.length_cons,List.length_nil]; omega⟩,(leQ [])⟩
      · exact ⟨(s,n - 1,q3),by simp only; omega,⟨by simp only; omega,by simp only; omega,h3⟩,(leQ [])⟩
    · exact ⟨(s ++ x,n - 1,q' + 1),by simp only; omega,⟨by simp only; omega,by simp only; omega,by simp; omega⟩,(leQ [])⟩
    · exact ⟨(s,n - 1,q' + 1),by simp only; omega,⟨by simp only; omega,by simp only; omega,h3⟩,(leQ [])⟩
  · exact retN (.str s) [rdH code q] [] (by simp only [go_sem]) ⟨q,by omega,by omega,rfl,s,h3,rfl⟩ (by simp only [go_sem,rdH]) (by simp [argH,getN,rdH]) (by simp only [go_sem,rdH])

def bits6 : List B := [[97],[98,99],[64],[120,49],[64,49,58,122],[59]]
theorem bits6_le : ∀ x ∈ bits6,x.length ≤ 4 := by decide
def ic58 : IC := sR [oP 4 (.mv (.c s0))] (sR [oP 5 (.mv (.c s0))] (.seq (sR [mV 8 0,oP 9 (.call 30 [.t 8,.c (.int .i64 5)]),oP 10 (.bin .add (.c (.int .i64 1)) (.t 9)),mV 6 10] (.block 0 (.loop (.seq (sR [mV 11 6,oP 12 (.bin .gtr (.t 11) (.c i0))] (.cond (.t 12) .skip (.exit 0))) (.seq (.block 1 (sR [mV 15 0,oP 16 (.bsl 9 1 [.c (.str [97]),.c (.str [98,99]),.c (.str [64]),.c (.str [120,49]),.c (.str [64,49,58,122]),.c (.str [59])]),oP 17 (.call 122 [.t 15,.t 16]),mV 7 17] (.seq (sR [mV 18 0,oP 19 (.call 30 [.t 18,.c (.int .i64 5)])] (.block 2 (.seq (sR [oP 21 (.bin .eql (.t 19) (.c i0)),mV 20 21] (.cond (.t 20) .skip (.reg [oP 22 (.bin .eql (.t 19) (.c (.int .i64 1))),mV 20 22]))) (.cond (.t 20) (.reg [mV 23 0,oP 24 (.call 30 [.t 23,.c (.int .i64 3)]),oP 25 (.bin .add (.c (.int .i64 1)) (.t 24)),mV 26 0,oP 27 (.call 30 [.t 26,.c (.int .i64 4)]),oP 28 (.bin .add (.c (.int .i64 1)) (.t 27)),oP 29 (.build [i0,i0] [(0,(1,.t 25)),(1,(1,.t 28))]),oP 30 (.call 125 [.t 29]),oP 31 (.bin .add (.c (.str [64])) (.t 30)),oP 32 (.bin .add (.t 31) (.c (.str [59]))),mV 7 32]) (sR [oP 34 (.bin .eql (.t 19) (.c (.int .i64 2))),mV 33 34] (.cond (.t 33) (.reg [mV 35 0,oP 36 (.call 30 [.t 35,.c (.int .i64 3)]),oP 37 (.bin .add (.c (.int .i64 4)) (.t 36)),mV 38 0,oP 39 (.call 30 [.t 38,.c (.int .i64 4)]),oP 40 (.bin .add (.c (.int .i64 1)) (.t 39)),oP 41 (.build [i0,i0] [(0,(1,.t 37)),(1,(1,.t 40))]),oP 42 (.call 125 [.t 41]),oP 43 (.bin .add (.c (.str [64])) (.t 42)),oP 44 (.bin .add (.t 43) (.c (.str [59]))),mV 7 44]) (sR [oP 46 (.bin .eql (.t 19) (.c (.int .i64 3))),mV 45 46] (.cond (.t 45) (sR [mV 47 1] (.cond (.t 47) (.reg [mV 48 0,oP 49 (.call 30 [.t 48,.c (.int .i64 4)]),oP 50 (.bin .add (.c (.int .i64 10)) (.t 49)),oP 51 (.build [i0,i0] [(0,(1,.c (.int .i64 9))),(1,(1,.t 50))]),oP 52 (.call 125 [.t 51]),oP 53 (.bin .add (.c (.str [64])) (.t 52)),oP 54 (.bin .add (.t 53) (.c (.str [59]))),mV 7 54]) .skip)) .skip)))))))) (sR [mV 55 5,oP 56 (.lens (.t 55)),mV 57 7,oP 58 (.lens (.t 57)),bN 59 .add 56 58,oP 60 (.bin .lss (.t 59) (.c (.int .i64 24)))] (.cond (.t 60) (.reg [mV 61 5,mV 62 7,bN 63 .add 61 62,mV 5 63]) .skip))))) (.reg [mV 13 6,oP 14 (.bin .sub (.t 13) (.c (.int .i64 1))),mV 6 14])))))) (.seq (sR [mV 64 5,oP 65 (.call 126 [.t 64]),oP 66 (.bin .gtr (.t 65) (.c i0))] (.cond (.t 66) (.reg [mV 67 5,oP 68 (.bin .add (.t 67) (.c (.str [122]))),mV 5 68]) .skip)) (sR [mV 69 5,mV 4 69] .ret))))
theorem dg58 : digF Tryz.prog Tryz.f58 = some (ic58,[(.t 4)]) := by kernel_rfl
theorem en58 : entr Tryz.prog 58 = true := by kernel_rfl
theorem c58 (code : B) (p : Int) (d : Bool) (hc : code.length ≤ 2000) (hp : 0 ≤ p ∧ p ≤ 600000000) : FnP Tryz.prog G 58 1 [rdH code p] [.pv 0 0,.bool d] (rdQ code p 21 (strQ 24)) := by
  refine FnP.mk' Tryz.func58 en58 dg58 Tryz.ntmps58 (by simp) ⟨_,_,p,by omega,by omega,rfl,[],by simp,rfl⟩ ?_
  simp only [ic58,go_sem,rdH]
  refine pkN code p 5 9 hc fun k k1 k2 => ?_
  simp only [go_sem,rdH]
  have k2 := k2 (by omega)
  with_reducible repeat' (first | rw [i64w (by omega)]; try simp only [go_sem] | refine br ?_ ?_ <;> intro h e <;> (try simp only [e,go_sem]) <;> clear e | (first | refine sk ?_ | refine sd ?_) <;> try simp only [go_sem] | fail)
  refine loopN (fun a : B × Int × Int => ⟨getL [(0,.pv 0 0),(1,.bool d),(5,.str a.1),(6,.int .i64 a.2.1)],getH [(0,.var 120 [.sl 1 (code.map byR),.int .i64 a.2.2])]⟩) (fun a => a.2.1.toNat) (fun a => (0 ≤ a.2.1 ∧ a.2.1 ≤ 5) ∧ (p ≤ a.2.2 ∧ a.2.2 ≤ p + 1 + 4 * (5 - a.2.1)) ∧ a.1.length ≤ 23) ([],1 + k,p + 1) (leQ []) (by simp; omega) ?_
  intro ⟨s,n,q⟩ ⟨h1,h2,h3⟩
  simp only at h1 h2 h3
  simp only [go_sem]
  with_reducible repeat' (first | rw [i64w (by omega)]; try simp only [go_sem] | refine br ?_ ?_ <;> intro h e <;> (try simp only [e,go_sem]) <;> clear e | (first | refine sk ?_ | refine sd ?_) <;> try simp only [go_sem] | fail)
  · refine callN (c122 code q bits6 hc (by omega) (by decide)) [0] [1016] true 17 1 (by simp only [go_sem,rdH,bits6,List.mem_singleton]; first | done | simp) (by simp only [go_sem,rdH]; first | done | simp) (by simp) (by simp) (by simp only [List.mem_singleton]; rintro c rfl; exact ⟨rfl,by simp⟩) ?_ ?_ ?_
    · rintro _ _ ⟨q',_,_,rfl,_⟩
      exact ⟨by simp,by simp,.inl rfl,fun i hi => by obtain rfl : i = 0 := (by omega); simp [chH,stepOk,rdH]⟩
    · intro i hi; obtain rfl : i = 0 := (by omega); simp only [go_sem]
    rintro _ _ ⟨q',q1,q2,rfl,x,hx,rfl⟩
    have hxl := bits6_le x hx
    clear hx
    simp only [go_sem,rdH]
    refine pkN code q' 5 19 hc fun j j1 j2 => ?_
    simp only [go_sem,rdH]
    have j2 := j2 (by omega)
    cases d
    all_goals
      with_reducible repeat' (first | rw [i64w (by omega)]; try simp only [go_sem] | refine br ?_ ?_ <;> intro h e <;> (try simp only [e,go_sem]) <;> clear e | (first | refine sk ?_ | refine sd ?_) <;> try simp only [go_sem] | fail)
    · have := 0
      refine pkN code (q' + 1) 3 24 hc fun a a1 a2 => ?_
      simp only [go_sem,rdH]
      have a2 := a2 (by omega)
      with_reducible repeat' (first | rw [i64w (by omega)]; try simp only [go_sem] | refine br ?_ ?_ <;> intro h e <;> (try simp only [e,go_sem]) <;> clear e | (first | refine sk ?_ | refine sd ?_) <;> try simp only [go_sem] | fail)
      refine pkN code (q' + 1 + 1) 4 27 hc fun b b1 b2 => ?_
      simp only [go_sem,rdH]
      have b2 := b2 (by omega)
      with_reducible repeat' (first | rw [i64w (by omega)]; try simp only [go_sem] | refine br ?_ ?_ <;> intro h e <;> (try simp only [e,go_sem]) <;> clear e | (first | refine sk ?_ | refine sd ?_) <;> try simp only [go_sem] | fail)
      refine callR (c125 (1 + a) (1 + b)) rfl rfl ?_
      simp only [go_sem]
      have hte := text_le (e := ⟨1 + a,1 + b⟩)
      generalize E.text ⟨1 + a,1 + b⟩ = w at *
      refine pureG (by omega) ?_
      simp only [go_sem]
      have hwl : (w ++ [59]).length = w.length + 1 := by simp
      with_reducible repeat' (first | rw [i64w (by omega)]; try simp only [go_sem,hwl] | refine br ?_ ?_ <;> intro h e <;> (try simp only [e,go_sem,hwl]) <;> clear e | (first | refine sk ?_ | refine sd ?_) <;> try simp only [go_sem,hwl] | fail)
      · exact ⟨(s ++ 64 :: (w ++ [59]),n - 1,q' + 1 + 1 + 1),by simp only; omega,⟨by simp only; omega,by simp only; omega,by simp only [List.length_append,List.length_cons,List.length_nil]; omega⟩,(leQ [])⟩
      · exact ⟨(s,n - 1,q' + 1 + 1 + 1),by simp only; omega,⟨by simp only; omega,by simp only; omega,h3⟩,(leQ [])⟩
    · have := 0
      refine pkN code (q' + 1) 3 24 hc fun a a1 a2 => ?_
      simp only [go_sem,rdH]
      have a2 := a2 (by omega)
      with_reducible repeat' (first | rw [i64w (by omega)]; try simp only [go_sem] | refine br ?_ ?_ <;> intro h e <;> (try simp only [e,go_sem]) <;> clear e | (first | refine sk ?_ | refine sd ?_) <;> try simp only [go_sem] | fail)
      refine pkN code (q' + 1 + 1) 4 27 hc fun b b1 b2 => ?_
      simp only [go_sem,rdH]
      have b2 := b2 (by omega)
      with_reducible repeat' (first | rw [i64w (by omega)]; try simp only [go_sem] | refine br ?_ ?_ <;> intro h e <;> (try simp only [e,go_sem]) <;> clear e | (first | refine sk ?_ | refine sd ?_) <;> try simp only [go_sem] | fail)
      refine callR (c125 (1 + a) (1 + b)) rfl rfl ?_
      simp only [go_sem]
      have hte := text_le (e := ⟨1 + a,1 + b⟩)
      generalize E.text ⟨1 + a,1 + b⟩ = w at *
      refine pureG (by omega) ?_
      simp only [go_sem]
      have hwl : (w ++ [59]).length = w.length + 1 := by simp
      with_reducible repeat' (first | rw [i64w (by omega)]; try simp only [go_sem,hwl] | refine br ?_ ?_ <;> intro h e <;> (try simp only [e,go_sem,hwl]) <;> clear e | (first | refine sk ?_ | refine sd ?_) <;> try simp only [go_sem,hwl] | fail)
      · exact ⟨(s ++ 64 :: (w ++ [59]),n - 1,q' + 1 + 1 + 1),by simp only; omega,⟨by simp only; omega,by simp only; omega,by simp only [List.length_append,List.length_cons,List.length_nil]; omega⟩,(leQ [])⟩
      · exact ⟨(s,n - 1,q' + 1 + 1 + 1),by simp only; omega,⟨by simp only; omega,by simp only; omega,h3⟩,(leQ [])⟩
    · have := 0
      refine pkN code (q' + 1) 3 36 hc fun a a1 a2 => ?_
      simp only [go_sem,rdH]
      have a2 := a2 (by omega)
      with_reducible repeat' (first | rw [i64w (by omega)]; try simp only [go_sem] | refine br ?_ ?_ <;> intro h e <;> (try simp only [e,go_sem]) <;> clear e | (first | refine sk ?_ | refine sd ?_) <;> try simp only [go_sem] | fail)
      refine pkN code (q' + 1 + 1) 4 39 hc fun b b1 b2 => ?_
      simp only [go_sem,rdH]
      have b2 := b2 (by omega)
      with_reducible repeat' (first | rw [i64w (by omega)]; try simp only [go_sem] | refine br ?_ ?_ <;> intro h e <;> (try simp only [e,go_sem]) <;> clear e | (first | refine sk ?_ | refine sd ?_) <;> try simp only [go_sem] | fail)
      refine callR (c125 (4 + a) (1 + b)) rfl rfl ?_
      simp only [go_sem]
      have hte := text_le (e := ⟨4 + a,1 + b⟩)
      generalize E.text ⟨4 + a,1 + b⟩ = w at *
      refine pureG (by omega) ?_
      simp only [go_sem]
      have hwl : (w ++ [59]).length = w.length + 1 := by simp
      with_reducible repeat' (first | rw [i64w (by omega)]; try simp only [go_sem,hwl] | refine br ?_ ?_ <;> intro h e <;> (try simp only [e,go_sem,hwl]) <;> clear e | (first | refine sk ?_ | refine sd ?_) <;> try simp only [go_sem,hwl] | fail)
      · exact ⟨(s ++ 64 :: (w ++ [59]),n - 1,q' + 1 + 1 + 1),by simp only; omega,⟨by simp only; omega,by simp only; omega,by simp only [List.length_append,List.length_cons,List.length_nil]; omega⟩,(leQ [])⟩
      · exact ⟨(s,n - 1,q' + 1 + 1 + 1),by simp only; omega,⟨by simp only; omega,by simp only; omega,h3⟩,(leQ [])⟩
    · exact ⟨(s ++ x,n - 1,q' + 1),by simp only; omega,⟨by simp only; omega,by simp only; omega,by simp only [List.length_append,List.length_cons,List.length_nil]; omega⟩,(leQ [])⟩
    · exact ⟨(s,n - 1,q' + 1),by simp only; omega,⟨by simp only; omega,by simp only; omega,h3⟩,(leQ [])⟩
    · exact ⟨(s ++ x,n - 1,q' + 1),by simp only; omega,⟨by simp only; omega,by simp only; omega,by simp only [List.length_append,List.length_cons,List.length_nil]; omega⟩,(leQ [])⟩
    · exact ⟨(s,n - 1,q' + 1),by simp only; omega,⟨by simp only; omega,by simp only; omega,h3⟩,(leQ [])⟩
    · have := 0
      refine pkN code (q' + 1) 3 24 hc fun a a1 a2 => ?_
      simp only [go_sem,rdH]
      have a2 := a2 (by omega)
      with_reducible repeat' (first | rw [i64w (by omega)]; try simp only [go_sem] | refine br ?_ ?_ <;> intro h e <;> (try simp only [e,go_sem]) <;> clear e | (first | refine sk ?_ | refine sd ?_) <;> try simp only [go_sem] | fail)
      refine pkN code (q' + 1 + 1) 4 27 hc fun b b1 b2 => ?_
      simp only [go_sem,rdH]
      have b2 := b2 (by omega)
      with_reducible repeat' (first | rw [i64w (by omega)]; try simp only [go_sem] | refine br ?_ ?_ <;> intro h e <;> (try simp only [e,go_sem]) <;> clear e | (first | refine sk ?_ | refine sd ?_) <;> try simp only [go_sem] | fail)
      refine callR (c125 (1 + a) (1 + b)) rfl rfl ?_
      simp only [go_sem]
      have hte := text_le (e := ⟨1 + a,1 + b⟩)
      generalize E.text ⟨1 + a,1 + b⟩ = w at *
      refine pureG (by omega) ?_
      simp only [go_sem]
      have hwl : (w ++ [59]).length = w.length + 1 := by simp
      with_reducible repeat' (first | rw [i64w (by omega)]; try simp only [go_sem,hwl] | refine br ?_ ?_ <;> intro h e <;> (try simp only [e,go_sem,hwl]) <;> clear e | (first | refine sk ?_ | refine sd ?_) <;> try simp only [go_sem,hwl] | fail)
      · exact ⟨(s ++ 64 :: (w ++ [59]),n - 1,q' + 1 + 1 + 1),by simp only; omega,⟨by simp only; omega,by simp only; omega,by simp only [List.length_append,List.length_cons,List.length_nil]; omega⟩,(leQ [])⟩
      · exact ⟨(s,n - 1,q' + 1 + 1 + 1),by simp only; omega,⟨by simp only; omega,by simp only; omega,h3⟩,(leQ [])⟩
    · have := 0
      refine pkN code (q' + 1) 3 24 hc fun a a1 a2 => ?_
      simp only [go_sem,rdH]
      have a2 := a2 (by omega)
      with_reducible repeat' (first | rw [i64w (by omega)]; try simp only [go_sem] | refine br ?_ ?_ <;> intro h e <;> (try simp only [e,go_sem]) <;> clear e | (first | refine sk ?_ | refine sd ?_) <;> try simp only [go_sem] | fail)
      refine pkN code (q' + 1 + 1) 4 27 hc fun b b1 b2 => ?_
      simp only [go_sem,rdH]
      have b2 := b2 (by omega)
      with_reducible repeat' (first | rw [i64w (by omega)]; try simp only [go_sem] | refine br ?_ ?_ <;> intro h e <;> (try simp only [e,go_sem]) <;> clear e | (first | refine sk ?_ | refine sd ?_) <;> try simp only [go_sem] | fail)
      refine callR (c125 (1 + a) (1 + b)) rfl rfl ?_
      simp only [go_sem]
      have hte := text_le (e := ⟨1 + a,1 + b⟩)
      generalize E.text ⟨1 + a,1 + b⟩ = w at *
      refine pureG (by omega) ?_
      simp only [go_sem]
      have hwl : (w ++ [59]).length = w.length + 1 := by simp
      with_reducible repeat' (first | rw [i64w (by omega)]; try simp only [go_sem,hwl] | refine br ?_ ?_ <;> intro h e <;> (try simp only [e,go_sem,hwl]) <;> clear e | (first | refine sk ?_ | refine sd ?_) <;> try simp only [go_sem,hwl] | fail)
      · exact ⟨(s ++ 64 :: (w ++ [59]),n - 1,q' + 1 + 1 + 1),by simp only; omega,⟨by simp only; omega,by simp only; omega,by simp only [List.length_append,List.length_cons,List.length_nil]; omega⟩,(leQ [])⟩
      · exact ⟨(s,n - 1,q' + 1 + 1 + 1),by simp only; omega,⟨by simp only; omega,by simp only; omega,h3⟩,(leQ [])⟩
    · have := 0
      refine pkN code (q' + 1) 3 36 hc fun a a1 a2 => ?_
      simp only [go_sem,rdH]
      have a2 := a2 (by omega)
      with_reducible repeat' (first | rw [i64w (by omega)]; try simp only [go_sem] | refine br ?_ ?_ <;> intro h e <;> (try simp only [e,go_sem]) <;> clear e | (first | refine sk ?_ | refine sd ?_) <;> try simp only [go_sem] | fail)
      refine pkN code (q' + 1 + 1) 4 39 hc fun b b1 b2 => ?_
      simp only [go_sem,rdH]
      have b2 := b2 (by omega)
      with_reducible repeat' (first | rw [i64w (by omega)]; try simp only [go_sem] | refine br ?_ ?_ <;> intro h e <;> (try simp only [e,go_sem]) <;> clear e | (first | refine sk ?_ | refine sd ?_) <;> try simp only [go_sem] | fail)
      refine callR (c125 (4 + a) (1 + b)) rfl rfl ?_
      simp only [go_sem]
      have hte := text_le (e := ⟨4 + a,1 + b⟩)
      generalize E.text ⟨4 + a,1 + b⟩ = w at *
      refine pureG (by omega) ?_
      simp only [go_sem]
      have hwl : (w ++ [59]).length = w.length + 1 := by simp
      with_reducible repeat' (first | rw [i64w (by omega)]; try simp only [go_sem,hwl] | refine br ?_ ?_ <;> intro h e <;> (try simp only [e,go_sem,hwl]) <;> clear e | (first | refine sk ?_ | refine sd ?_) <;> try simp only [go_sem,hwl] | fail)
      · exact ⟨(s ++ 64 :: (w ++ [59]),n - 1,q' + 1 + 1 + 1),by simp only; omega,⟨by simp only; omega,by simp only; omega,by simp only [List.length_append,List.length_cons,List.length_nil]; omega⟩,(leQ [])⟩
      · exact ⟨(s,n - 1,q' + 1 + 1 + 1),by simp only; omega,⟨by simp only; omega,by simp only; omega,h3⟩,(leQ [])⟩
    · have := 0
      refine pkN code (q' + 1) 4 49 hc fun a a1 a2 => ?_
      simp only [go_sem,rdH]
      have a2 := a2 (by omega)
      with_reducible repeat' (first | rw [i64w (by omega)]; try simp only [go_sem] | refine br ?_ ?_ <;> intro h e <;> (try simp only [e,go_sem]) <;> clear e | (first | refine sk ?_ | refine sd ?_) <;> try simp only [go_sem] | fail)
      refine callR (c125 9 (10 + a)) rfl rfl ?_
      simp only [go_sem]
      have hte := text_le (e := ⟨9,10 + a⟩)
      generalize E.text ⟨9,10 + a⟩ = w at *
      refine pureG (by omega) ?_
      simp only [go_sem]
      have hwl : (w ++ [59]).length = w.length + 1 := by simp
      with_reducible repeat' (first | rw [i64w (by omega)]; try simp only [go_sem,hwl] | refine br ?_ ?_ <;> intro h e <;> (try simp only [e,go_sem,hwl]) <;> clear e | (first | refine sk ?_ | refine sd ?_) <;> try simp only [go_sem,hwl] | fail)
      · exact ⟨(s ++ 64 :: (w ++ [59]),n - 1,q' + 1 + 1),by simp only; omega,⟨by simp only; omega,by simp only; omega,by simp only [List.length_append,List.length_cons,List.length_nil]; omega⟩,(leQ [])⟩
      · exact ⟨(s,n - 1,q' + 1 + 1),by simp only; omega,⟨by simp only; omega,by simp only; omega,h3⟩,(leQ [])⟩
    · exact ⟨(s ++ x,n - 1,q' + 1),by simp only; omega,⟨by simp only; omega,by simp only; omega,by simp only [List.length_append,List.length_cons,List.length_nil]; omega⟩,(leQ [])⟩
    · exact ⟨(s,n - 1,q' + 1),by simp only; omega,⟨by simp only; omega,by simp only; omega,h3⟩,(leQ [])⟩
  with_reducible repeat' (first | rw [i64w (by omega)]; try simp only [go_sem] | refine br ?_ ?_ <;> intro h e <;> (try simp only [e,go_sem]) <;> clear e | (first | refine sk ?_ | refine sd ?_) <;> try simp only [go_sem] | (first | refine cr (c126 ..) ?_) <;> try simp only [go_sem] | fail)
  · exact retN (.str (s ++ [122])) [rdH code q] [] (by simp only [go_sem]) ⟨q,by omega,by omega,rfl,_,by simp; omega,rfl⟩ (by simp only [go_sem,rdH]) (by simp [argH,getN,rdH]) (by simp only [go_sem,rdH])
  · exact retN (.str s) [rdH code q] [] (by simp only [go_sem]) ⟨q,by omega,by omega,rfl,s,by omega,rfl⟩ (by simp only [go_sem,rdH]) (by simp [argH,getN,rdH]) (by simp only [go_sem,rdH])
def ic28 : IC := sR [oP 2 (.mv (.c .nilp))] (.seq (sR [mV 3 0,oP 4 (.len (.t 3)),oP 5 (.bin .gtr (.t 4) (.c (.int .i64 2000)))] (.cond (.t 5) (.reg [mV 6 0,oP 7 (.slv 1 (.t 6) none (some (.c (.int .i64 2000)))),mV 0 7]) .skip)) (sR [mV 8 0,oP 9 (.build [.nils,i0] [(0,(1,.t 8))]),oP 10 (.box 120 (.t 9)),mV 2 10] .ret))
theorem dg28 : digF Tryz.prog Tryz.f28 = some (ic28,[(.t 2)]) := by kernel_rfl
theorem en28 : entr Tryz.prog 28 = true := by kernel_rfl
theorem c28 (code : B) (hc : code.length ≤ 2000000) : FnP Tryz.prog G 28 0 [] [.sl 1 (code.map byR)] (fun r o => r = .pv 0 0 ∧ o = [rdH (code.take 2000) 0]) := by
  refine FnP.mk' Tryz.func28 en28 dg28 Tryz.ntmps28 (by simp) ⟨_,_,rfl,rfl⟩ ?_
  simp only [ic28,go_sem]
  with_reducible repeat' (first | refine br ?_ ?_ <;> intro h e <;> (try simp only [e,go_sem]) <;> clear e | rw [i64w (by omega)] | (first | refine sk ?_ | refine sd ?_) <;> try simp only [go_sem] | fail)
  · refine retN (.pv 0 0) [rdH (code.take 2000) 0] [(0,1010)] (by simp only [go_sem,rdH]; first | done | simp) ⟨rfl,rfl⟩ ?_ (by simp [argH,getN,rdH]) (by simp only [go_sem])
    simp only [go_sem,rdH]
  · refine retN (.pv 0 0) [rdH (code.take 2000) 0] [(0,1010)] (by simp only [go_sem,rdH]; first | done | simp) ⟨rfl,rfl⟩ ?_ (by simp [argH,getN,rdH]) (by simp only [go_sem])
    have : code.take 2000 = code := List.take_of_length_le (by omega)
    simp only [go_sem,rdH,this]
def CvD (cs : List Conv) : Prop := (1 ≤ cs.length ∧ cs.length ≤ 2) ∧ ∀ c ∈ cs,(c.up.length ≤ 24 ∧ c.down.length ≤ 24) ∧ (c.upAck = 0 ∧ c.downAck = 0)
def cvQ (code : B) (p k : Int) (r : V) (o : List Hs) : Prop := ∃ (p' : Int) (cs : List Conv),(p ≤ p' ∧ p' ≤ p + k) ∧ CvD cs ∧ r = .own 1 cs.length ∧ o = [rdH code p',.arr 42 10 (cs.map Conv.row)]
def ic68 : IC := sR [oP 2 (.mv (.c .nils))] (sR [oP 6 (.bsl 42 10 []),mV 3 6] (.seq (sR [oP 4 (.mv (.c i0))] (.block 0 (.loop (.seq (sR [mV 7 4,mV 8 0,oP 9 (.call 30 [.t 8,.c (.int .i64 2)]),oP 10 (.bin .add (.c (.int .i64 1)) (.t 9)),bN 11 .lss 7 10] (.cond (.t 11) .skip (.exit 0))) (.seq (.block 1 (sR [mV 14 4,oP 15 (.bin .add (.c (.int .i64 1)) (.t 14)),mV 16 0,oP 17 (.call 30 [.t 16,.c (.int .i64 2)]),bN 18 .add 15 17,mV 19 4,oP 20 (.bin .add (.c (.int .i64 1)) (.t 19)),oP 21 (.build [i0,i0] [(0,(1,.t 18)),(1,(1,.t 20))]),mV 22 4,oP 23 (.bin .add (.c (.int .i64 4)) (.t 22)),mV 24 0,oP 25 (.call 30 [.t 24,.c (.int .i64 4)]),oP 26 (.bin .add (.c (.int .i64 1)) (.t 25)),oP 27 (.build [i0,i0] [(0,(1,.t 23)),(1,(1,.t 26))]),mV 28 0,oP 29 (.call 58 [.t 28,.c (.bool false)]),mV 30 0,oP 31 (.call 58 [.t 30,.c (.bool true)]),oP 32 (.build [i0,i0,i0,i0,s0,s0,i0,i0,s0,s0] [(0,(2,.t 21)),(2,(2,.t 27)),(4,(1,.t 29)),(5,(1,.t 31))]),oP 5 (.alloc 42 [i0,i0,i0,i0,s0,s0,i0,i0,s0,s0]),nP (.sto 10 (.t 5) (.t 32))] (.reg [mV 33 3,lA 34 10 5,oP 35 (.bsl 42 10 [.t 34]),oP 36 (.app 42 10 (.t 33) (.t 35)),mV 3 36]))) (.reg [mV 12 4,oP 13 (.bin .add (.t 12) (.c (.int .i64 1))),mV 4 13])))))) (sR [mV 37 3,mV 2 37] .ret)))
theorem dg68 : digF Tryz.prog Tryz.f68 = some (ic68,[(.t 2)]) := by kernel_rfl
theorem en68 : entr Tryz.prog 68 = true := by kernel_rfl
theorem c68 (code : B) (p : Int) (hc : code.length ≤ 2000) (hp : 0 ≤ p ∧ p ≤ 400000000) : FnP Tryz.prog G 68 1 [rdH code p] [.pv 0 0] (cvQ code p 150) := by
  refine FnP.mk' Tryz.func68 en68 dg68 Tryz.ntmps68 (by simp) ⟨_,_,p,[⟨.zero,.zero,[],[],0,0,[],[]⟩],by omega,⟨by simp,by simp⟩,rfl,rfl⟩ ?_
  simp only [ic68,go_sem,rdH]
  refine loopN (fun a : List Conv × Int => ⟨getL [(0,.pv 0 0),(3,.own 1006 a.1.length),(4,.int .i64 (a.1.length : Int))],getH [(0,.var 120 [.sl 1 (code.map byR),.int .i64 a.2]),(1006,.arr 42 10 (a.1.map Conv.row))]⟩) (fun a => 2 - a.1.length)
    (fun a => a.1.length ≤ 2 ∧ (p ≤ a.2 ∧ a.2 ≤ p + 45 * a.1.length) ∧ ∀ c ∈ a.1,(c.up.length ≤ 24 ∧ c.down.length ≤ 24) ∧ (c.upAck = 0 ∧ c.downAck = 0)) ([],p) (leQ []) ⟨by simp,by simp,by simp⟩ ?_
  intro ⟨cs,q⟩ ⟨h1,h2,h3⟩
  simp only at h1 h2 h3
  simp only [go_sem]
  refine pkN code q 2 9 hc fun k k1 k2 => ?_
  simp only [go_sem,rdH]
  have k2 := k2 (by omega)
  with_reducible repeat' (first | rw [i64w (by omega)]; try simp only [go_sem] | refine br ?_ ?_ <;> intro h e <;> (try simp only [e,go_sem]) <;> clear e | (first | refine sk ?_ | refine sd ?_) <;> try simp only [go_sem] | fail)
  · have := 0
    refine pkN code (q + 1) 2 17 hc fun a a1 a2 => ?_
    simp only [go_sem,rdH]
    have a2 := a2 (by omega)
    with_reducible repeat' (first | rw [i64w (by omega)]; try simp only [go_sem] | refine br ?_ ?_ <;> intro h e <;> (try simp only [e,go_sem]) <;> clear e | (first | refine sk ?_ | refine sd ?_) <;> try simp only [go_sem] | fail)
    refine pkN code (q + 1 + 1) 4 25 hc fun b b1 b2 => ?_
    simp only [go_sem,rdH]
    have b2 := b2 (by omega)
    with_reducible repeat' (first | rw [i64w (by omega)]; try simp only [go_sem] | refine br ?_ ?_ <;> intro h e <;> (try simp only [e,go_sem]) <;> clear e | (first | refine sk ?_ | refine sd ?_) <;> try simp only [go_sem] | fail)
    refine callN (c58 code (q + 1 + 1 + 1) false hc (by omega)) [0] [] true 29 1 (by simp only [go_sem,rdH]; first | done | simp) (by simp only [go_sem,rdH]; first | done | simp) (by simp) (by simp) (by simp) ?_ ?_ ?_
    · rintro _ _ ⟨q',_,_,rfl,_⟩
      exact ⟨by simp,by simp,.inl rfl,fun i hi => by obtain rfl : i = 0 := (by omega); simp [chH,stepOk,rdH]⟩
    · intro i hi; obtain rfl : i = 0 := (by omega); simp only [go_sem]
    rintro _ _ ⟨q1,q11,q12,rfl,s,hs,rfl⟩
    simp only [go_sem,rdH]
    with_reducible repeat' (first | rw [i64w (by omega)]; try simp only [go_sem] | refine br ?_ ?_ <;> intro h e <;> (try simp only [e,go_sem]) <;> clear e | (first | refine sk ?_ | refine sd ?_) <;> try simp only [go_sem] | fail)
    refine callN (c58 code q1 true hc (by omega)) [0] [] true 31 1 (by simp only [go_sem,rdH]; first | done | simp) (by simp only [go_sem,rdH]; first | done | simp) (by simp) (by simp) (by simp) ?_ ?_ ?_
    · rintro _ _ ⟨q',_,_,rfl,_⟩
      exact ⟨by simp,by simp,.inl rfl,fun i hi => by obtain rfl : i = 0 := (by omega); simp [chH,stepOk,rdH]⟩
    · intro i hi; obtain rfl : i = 0 := (by omega); simp only [go_sem]
    rintro _ _ ⟨q2,q21,q22,rfl,t,ht,rfl⟩
    simp only [go_sem,rdH]
    with_reducible repeat' (first | rw [i64w (by omega)]; try simp only [go_sem] | refine br ?_ ?_ <;> intro h e <;> (try simp only [e,go_sem]) <;> clear e | (first | refine sk ?_ | refine sd ?_) <;> try simp only [go_sem] | fail)
    refine ⟨(cs ++ [⟨⟨1 + cs.length + a,1 + cs.length⟩,⟨4 + cs.length,1 + b⟩,s,t,0,0,[],[]⟩],q2),by simp only [List.length_append,List.length_cons,List.length_nil]; omega,⟨by simp only [List.length_append,List.length_cons,List.length_nil]; omega,by simp only [List.length_append,List.length_cons,List.length_nil]; omega, ?_⟩,leN [(1006,1036)] ?_ ?_ (by simp [getN]) (by simp only [go_sem])⟩
    · intro c hc
      rcases List.mem_append.1 hc with hc | hc
      · exact h3 c hc
      · simp only [List.mem_singleton] at hc
        subst hc
        exact ⟨⟨hs,ht⟩,rfl,rfl⟩
    · simp only [go_sem]; simp
    · simp only [go_sem]; simp [Conv.row]
  · refine retN (.own 1 cs.length) [rdH code (q + 1),.arr 42 10 (cs.map Conv.row)] [(1,1006)] (by simp only [go_sem]) ⟨q + 1,cs,by omega,⟨by omega,h3⟩,rfl,rfl⟩ ?_ (by simp [argH,getN,rdH]) (by simp only [go_sem,rdH])
    simp only [go_sem,rdH]
def evQ (r : V) : Prop := ∃ e : Ev,e.pkt.text.length ≤ 50 ∧ r = .agg (Ev.row e)
def evA (code : B) (p : Int) (w : M.World) (r : V) (o : List Hs) : Prop := ∃ p' : Int,(p ≤ p' ∧ p' ≤ p + 60) ∧ o = [rdH code p',.arr 42 10 (w.convs.map Conv.row),.arr 98 3 (w.door.map.map Pair.row),.arr 91 8 (w.door.flows.map Flw.row),.arr 40 7 (w.nets.map Pk.row)] ∧ evQ r
def ints6 : List Int := [1,3,5,8,24,24]
theorem ints6_e : [[V.int .i64 1],[V.int .i64 3],[V.int .i64 5],[V.int .i64 8],[V.int .i64 24],[V.int .i64 24]] = ints6.map (fun x => [V.int .i64 x]) := rfl
theorem ints6_l : ints6.length = 6 := rfl
theorem lt6 {c : Int} (h : 0 ≤ c) (h2 : c < 6) : c.toNat < ints6.length := by simp only [ints6,List.length_cons,List.length_nil]; omega
theorem div5 {c : Int} (h : 0 ≤ c) (h2 : c < 6) : 0 ≤ c.tdiv 5 ∧ c.tdiv 5 ≤ 1 := by
  obtain ⟨n,rfl⟩ := Int.eq_ofNat_of_zero_le h
  rw [show (n : Int).tdiv 5 = ((n / 5 : Nat) : Int) from (Int.ofNat_tdiv n 5).symm]
  omega
theorem finE (code : B) (p : Int) (w : M.World) {l mm} (q : Int) (e : Ev) (h1 : p ≤ q ∧ q ≤ p + 60 := by omega) (h2 : e.pkt.text.length ≤ 50 := by (simp [Pk.zero]; try omega)) (h3 : getL l 4 = .pv 1004 0 := by simp only [go_sem])
    (h4 : getH mm 1004 = .var 46 (Ev.row e) := by simp only [go_sem,Pk.zero,E.zero]) (h5 : getH mm 0 = .var 120 [.sl 1 (code.map byR),.int .i64 q] := by simp only [go_sem])
    (h6 : getH mm 1 = .arr 42 10 (w.convs.map Conv.row) := by simp only [go_sem]) (h7 : getH mm 2 = .arr 98 3 (w.door.map.map Pair.row) := by simp only [go_sem]) (h8 : getH mm 3 = .arr 91 8 (w.door.flows.map Flw.row) := by simp only [go_sem])
    (h9 : getH mm 4 = .arr 40 7 (w.nets.map Pk.row) := by simp only [go_sem]) : retQ [.cell 4 11 true] 5 (evA code p w) .ret ⟨getL l,getH mm⟩ := by
  refine retN (.agg (Ev.row e)) [rdH code q,.arr 42 10 (w.convs.map Conv.row),.arr 98 3 (w.door.map.map Pair.row),.arr 91 8 (w.door.flows.map Flw.row),.arr 40 7 (w.nets.map Pk.row)] [] ?_ ⟨q,h1,rfl,e,h2,rfl⟩ ?_ (by simp [argH,getN,rdH]) (by simp only [go_sem,rdH])
  · simp only [go_sem,h3,h4]
  · simp only [go_sem,h5,h6,h7,h8,h9,rdH]
def ic69 : IC := sR [oP 3 (.box 33 (.t 1)),oP 4 (.alloc 46 [i0,i0,i0,i0,i0,i0,i0,i0,i0,i0,s0])] (sR [fD 8 3 3,lD 9 1 8,oP 10 (.len (.t 9)),mV 5 10] (.seq (sR [mV 11 5,oP 12 (.bin .gtr (.t 11) (.c i0)),mV 13 12,⟨some 14,some (13,true),.mv (.t 0)⟩,⟨some 15,some (13,true),.call 30 [.t 14,.c (.int .i64 7)]⟩,⟨some 16,some (13,true),.bin .lss (.t 15) (.c (.int .i64 4))⟩,oP 17 (.pick (.t 13) (.t 16) (.c (.bool false)))] (.cond (.t 17) (sR [mV 18 0,mV 19 5,oP 20 (.call 30 [.t 18,.t 19]),oP 21 (.build [i0,i0,i0,i0,i0,i0,i0,i0,i0,i0,s0] [(0,(1,.c (.int .i64 3))),(1,(1,.t 20))]),nP (.sto 11 (.t 4) (.t 21))] .ret) .skip)) (sR [mV 22 0,fD 23 0 3,lD 24 1 23,oP 25 (.len (.t 24)),oP 26 (.bin .add (.t 25) (.c (.int .i64 1))),oP 27 (.call 30 [.t 22,.t 26]),oP 28 (.build [i0,i0,i0,i0,i0,i0,i0,i0,i0,i0,s0] [(0,(1,.c (.int .i64 1))),(1,(1,.t 27))]),oP 6 (.alloc 46 [i0,i0,i0,i0,i0,i0,i0,i0,i0,i0,s0]),nP (.sto 11 (.t 6) (.t 28))] (.seq (sR [fD 29 1 6,lD 30 1 29,fD 31 0 3,lD 32 1 31,oP 33 (.len (.t 32)),bN 34 .eql 30 33] (.cond (.t 34) (.reg [fD 35 1 6,nP (.sto 1 (.t 35) (.c i0))]) .skip)) (.seq (sR [mV 36 0,oP 37 (.call 30 [.t 36,.c (.int .i64 10)])] (.block 0 (.seq (sR [oP 62 (.bin .eql (.t 37) (.c i0)),mV 61 62] (.cond (.t 61) .skip (sR [oP 63 (.bin .eql (.t 37) (.c (.int .i64 1))),mV 61 63] (.cond (.t 61) .skip (sR [oP 64 (.bin .eql (.t 37) (.c (.int .i64 2))),mV 61 64] (.cond (.t 61) .skip (.reg [oP 65 (.bin .eql (.t 37) (.c (.int .i64 3))),mV 61 65]))))))) (.cond (.t 61) (.seq (.drw [0,1,0,4,15,31,63,0,128,384,896,2047,4095,8191,16383] [(0,fD 66 0 3),(1,lD 67 1 66),(2,fD 68 1 6),(3,lD 69 1 68),(4,oP 70 (.iad 10 (.t 67) (.t 69))),(5,fD 71 6 70),(6,lD 72 1 71),(7,mV 73 0),(8,oP 74 (.call 30 [.t 73,.c (.int .i64 6)])),(9,oP 75 (.bin .quo (.t 74) (.c (.int .i64 5)))),(10,oP 76 (.bin .mul (.t 75) (.c (.int .i64 3)))),(11,bN 77 .sub 72 76),(12,oP 78 (.mx (.t 77) (.c i0))),(13,fD 79 2 6),(14,nP (.sto 1 (.t 79) (.t 78)))]) (.reg [oP 80 (.bsl 3 1 [.c (.int .i64 1),.c (.int .i64 3),.c (.int .i64 5),.c (.int .i64 8),.c (.int .i64 24),.c (.int .i64 24)]),mV 81 0,oP 82 (.call 30 [.t 81,.c (.int .i64 6)]),oP 83 (.iad 1 (.t 80) (.t 82)),lD 84 1 83,fD 85 3 6,nP (.sto 1 (.t 85) (.t 84))])) (.seq (sR [oP 87 (.bin .eql (.t 37) (.c (.int .i64 4))),mV 86 87] (.cond (.t 86) .skip (sR [oP 88 (.bin .eql (.t 37) (.c (.int .i64 5))),mV 86 88] (.cond (.t 86) .skip (.reg [oP 89 (.bin .eql (.t 37) (.c (.int .i64 6))),mV 86 89]))))) (.cond (.t 86) (sR [fD 90 0 6,nP (.sto 1 (.t 90) (.c (.int .i64 2)))] (.seq (.drw [0,1,0,4,15,31,63,0,128,384,896,2047,4095,8191,16383] [(0,fD 91 0 3),(1,lD 92 1 91),(2,fD 93 1 6),(3,lD 94 1 93),(4,oP 95 (.iad 10 (.t 92) (.t 94))),(5,fD 96 7 95),(6,lD 97 1 96),(7,mV 98 0),(8,oP 99 (.call 30 [.t 98,.c (.int .i64 6)])),(9,oP 100 (.bin .quo (.t 99) (.c (.int .i64 5)))),(10,oP 101 (.bin .mul (.t 100) (.c (.int .i64 3)))),(11,bN 102 .sub 97 101),(12,oP 103 (.mx (.t 102) (.c i0))),(13,fD 104 2 6),(14,nP (.sto 1 (.t 104) (.t 103)))]) (.reg [oP 105 (.bsl 3 1 [.c (.int .i64 1),.c (.int .i64 3),.c (.int .i64 5),.c (.int .i64 8),.c (.int .i64 24),.c (.int .i64 24)]),mV 106 0,oP 107 (.call 30 [.t 106,.c (.int .i64 6)]),oP 108 (.iad 1 (.t 105) (.t 107)),lD 109 1 108,fD 110 3 6,nP (.sto 1 (.t 110) (.t 109))]))) (sR [oP 112 (.bin .eql (.t 37) (.c (.int .i64 7))),mV 111 112] (.cond (.t 111) (sR [mV 113 0,mV 114 5,oP 115 (.bin .add (.t 114) (.c (.int .i64 1))),oP 116 (.call 30 [.t 113,.t 115]),oP 117 (.build [i0,i0,i0,i0,i0,i0,i0,i0,i0,i0,s0] [(0,(1,.c (.int .i64 4))),(1,(1,.t 116))]),nP (.sto 11 (.t 4) (.t 117))] .ret) (sR [oP 119 (.bin .eql (.t 37) (.c (.int .i64 8))),mV 118 119] (.cond (.t 118) (sR [mV 120 0,mV 121 5,oP 122 (.bin .add (.t 121) (.c (.int .i64 1))),oP 123 (.call 30 [.t 120,.t 122]),oP 124 (.build [i0,i0,i0,i0,i0,i0,i0,i0,i0,i0,s0] [(0,(1,.c (.int .i64 5))),(1,(1,.t 123))]),nP (.sto 11 (.t 4) (.t 124))] .ret) (sR [mV 38 0,oP 39 (.call 30 [.t 38,.c (.int .i64 2)]),oP 40 (.bin .add (.c (.int .i64 1)) (.t 39)),mV 41 0,oP 42 (.call 30 [.t 41,.c (.int .i64 9)]),oP 43 (.bin .add (.c (.int .i64 1)) (.t 42)),oP 44 (.build [i0,i0] [(0,(1,.c (.int .i64 6))),(1,(1,.t 43))]),mV 45 0,oP 46 (.call 30 [.t 45,.c (.int .i64 3)]),oP 47 (.bin .add (.c (.int .i64 10)) (.t 46)),oP 48 (.build [i0,i0] [(0,(1,.c (.int .i64 9))),(1,(1,.t 47))]),mV 49 0,oP 50 (.call 30 [.t 49,.c (.int .i64 6)]),oP 51 (.build [i0,i0,i0,i0,i0,i0,s0] [(0,(1,.t 40)),(1,(2,.t 44)),(3,(2,.t 48)),(5,(1,.t 50))]),oP 7 (.alloc 40 [i0,i0,i0,i0,i0,i0,s0]),nP (.sto 7 (.t 7) (.t 51))] (.seq (sR [fD 52 0 7,lD 53 1 52,oP 54 (.bin .eql (.t 53) (.c (.int .i64 1)))] (.cond (.t 54) (.reg [mV 55 0,oP 56 (.call 127 [.t 55,.c (.int .i64 8)]),oP 57 (.bin .add (.t 56) (.c (.str [113]))),fD 58 6 7,nP (.sto 1 (.t 58) (.t 57))]) .skip)) (sR [lA 59 7 7,oP 60 (.build [i0,i0,i0,i0,i0,i0,i0,i0,i0,i0,s0] [(0,(1,.c (.int .i64 6))),(4,(7,.t 59))]),nP (.sto 11 (.t 4) (.t 60))] .ret))))))))))))) (.seq (sR [mV 125 0,oP 126 (.call 30 [.t 125,.c (.int .i64 5)]),oP 127 (.bin .eql (.t 126) (.c i0))] (.cond (.t 127) (.reg [mV 128 0,oP 129 (.call 30 [.t 128,.c (.int .i64 12)]),fD 130 2 6,nP (.sto 1 (.t 130) (.t 129))]) .skip)) (sR [lA 131 11 6,nP (.sto 11 (.t 4) (.t 131))] .ret)))))))
theorem dg69 : digF Tryz.prog Tryz.f69 = some (ic69,[(.cell 4 11 true)]) := by kernel_rfl
theorem en69 : entr Tryz.prog 69 = true := by kernel_rfl
set_option maxHeartbeats 4000000 in
theorem c69 (code : B) (p : Int) (w : M.World) (hc : code.length ≤ 2000) (hp : 0 ≤ p ∧ p ≤ 300000000) (h1 : 1 ≤ w.convs.length ∧ w.convs.length ≤ 1000) (h2 : w.nets.length ≤ 1000)
    (h3 : ∀ c ∈ w.convs,(0 ≤ c.upAck ∧ c.upAck ≤ 1000) ∧ 0 ≤ c.downAck ∧ c.downAck ≤ 1000) : FnP Tryz.prog G 69 5 [rdH code p,.arr 42 10 (w.convs.map Conv.row),.arr 98 3 (w.door.map.map Pair.row),.arr 91 8 (w.door.flows.map Flw.row),.arr 40 7 (w.nets.map Pk.row)] [.pv 0 0,.agg [.own 1 w.convs.length,.own 2 w.door.map.length,.own 3 w.door.flows.length,.own 4 w.nets.length]] (evA code p w) := by
  refine FnP.mk' Tryz.func69 en69 dg69 Tryz.ntmps69 (by simp) ⟨_,_,p,by omega,rfl,⟨0,0,0,0,.zero⟩,by simp [Pk.zero],rfl⟩ ?_
  have acks : ∀ k : Nat,k < w.convs.length → (0 ≤ (w.convs.getD k default).upAck ∧ (w.convs.getD k default).upAck ≤ 1000) ∧ 0 ≤ (w.convs.getD k default).downAck ∧ (w.convs.getD k default).downAck ≤ 1000 := fun k hk => by
    have : w.convs.getD k default = w.convs[k] := by simp [List.getD,hk]
    rw [this]; exact h3 _ (List.getElem_mem hk)
  clear h3
  simp only [ic69,go_sem,rdH]
  with_reducible repeat' (first | rw [i64w (by omega)]; try simp only [go_sem] | refine br ?_ ?_ <;> intro h e <;> (try simp only [e,go_sem]) <;> clear e | (first | refine sk ?_ | refine sd ?_) <;> try simp only [go_sem] | fail)
  · have := 0
    refine pkN code p 7 15 hc fun k k1 k2 => ?_
    simp only [go_sem,rdH]
    have k2 := k2 (by omega)
    with_reducible repeat' (first | rw [i64w (by omega)]; try simp only [go_sem] | refine br ?_ ?_ <;> intro h e <;> (try simp only [e,go_sem]) <;> clear e | (first | refine sk ?_ | refine sd ?_) <;> try simp only [go_sem] | fail)
    · have := 0
      refine pkN code (p + 1) w.nets.length 20 hc fun j j1 j2 => ?_
      simp only [go_sem,rdH]
      with_reducible repeat' (first | rw [i64w (by omega)]; try simp only [go_sem] | refine br ?_ ?_ <;> intro h e <;> (try simp only [e,go_sem]) <;> clear e | (first | refine sk ?_ | refine sd ?_) <;> try simp only [go_sem] | fail)
      exact finE code p w (p + 1 + 1) ⟨3,j,0,0,.zero⟩
    · obtain ⟨q,hq⟩ : ∃ q,q = p + 1 := ⟨_,rfl⟩
      rw [← hq]
      with_reducible repeat' (first | rw [i64w (by omega)]; try simp only [go_sem] | refine br ?_ ?_ <;> intro h e <;> (try simp only [e,go_sem]) <;> clear e | (first | refine sk ?_ | refine sd ?_) <;> try simp only [go_sem] | fail)
      refine pkN code q (w.convs.length + 1) 27 hc fun a a1 a2 => ?_
      simp only [go_sem,rdH]
      have a2 := a2 (by omega)
      with_reducible repeat' (first | rw [i64w (by omega)]; try simp only [go_sem] | refine br ?_ ?_ <;> intro h e <;> (try simp only [e,go_sem]) <;> clear e | (first | refine sk ?_ | refine sd ?_) <;> try simp only [go_sem] | fail)
      · have := 0
        refine pkN code (q + 1) 10 37 hc fun b b1 b2 => ?_
        simp only [go_sem,rdH]
        with_reducible repeat' (first | rw [i64w (by omega)]; try simp only [go_sem] | refine br ?_ ?_ <;> intro h e <;> (try simp only [e,go_sem]) <;> clear e | (first | refine sk ?_ | refine sd ?_) <;> try simp only [go_sem] | fail)
        iterate 4
         · have := 0
           have hac := acks 0 (by omega)
           have hck : 0 < w.convs.length := by omega
           try simp only [getD_mp hck,go_sem]
           with_reducible repeat' (first | rw [i64w (by omega)]; try simp only [go_sem,getD_mp hck] | refine br ?_ ?_ <;> intro h e <;> (try simp only [e,go_sem,getD_mp hck]) <;> clear e | (first | refine sk ?_ | refine sd ?_) <;> try simp only [go_sem,getD_mp hck] | fail)
           refine pkN code ((q + 1) + 1) 6 74 hc fun x1 x11 x12 => ?_
           simp only [go_sem,rdH]
           have x12 := x12 (by omega)
           have hd5 := div5 x11 x12
           generalize hX : (w.convs.getD 0 default).upAck = X at *
           generalize hY : x1.tdiv 5 = Y at *
           have w1 : IntKind.i64.wrap Y = Y := i64w (by omega)
           have w2 : IntKind.i64.wrap (Y * 3) = Y * 3 := i64w (by omega)
           have w3 : IntKind.i64.wrap (X - Y * 3) = X - Y * 3 := i64w (by omega)
           try simp only [hX,hY,w1,w2,w3,ints6_e,go_sem]
           with_reducible repeat' (first | refine br ?_ ?_ <;> intro h e <;> (try simp only [e,go_sem,getD_mp hck,hX,hY,w1,w2,w3,ints6_e]) <;> clear e | rw [i64w (by omega)] | (first | refine sk ?_ | refine sd ?_) <;> try simp only [go_sem,getD_mp hck,hX,hY,w1,w2,w3,ints6_e] | fail)
           refine pkN code (((q + 1) + 1) + 1) 6 82 hc fun x3 x31 x32 => ?_
           simp only [go_sem,rdH]
           have x32 := x32 (by omega)
           have h6 := lt6 x31 x32
           have h6' : (x3 : Int) < ints6.length := by omega
           try simp only [getD_mp h6,ints6_e,ints6_l,List.length_map,go_sem]
           with_reducible repeat' (first | refine br ?_ ?_ <;> intro h e <;> (try simp only [e,go_sem,getD_mp h6,ints6_e,ints6_l,List.length_map]) <;> clear e | rw [i64w (by omega)] | (first | refine sk ?_ | refine sd ?_) <;> try simp only [go_sem,getD_mp h6,ints6_e,ints6_l,List.length_map] | fail)
           refine pkN code (((q + 1) + 1) + 1 + 1) 5 126 hc fun x5 x51 x52 => ?_
           simp only [go_sem,rdH]
           have x52 := x52 (by omega)
           with_reducible repeat' (first | rw [i64w (by omega)]; try simp only [go_sem] | refine br ?_ ?_ <;> intro h e <;> (try simp only [e,go_sem]) <;> clear e | (first | refine sk ?_ | refine sd ?_) <;> try simp only [go_sem] | fail)
           · have := 0
             refine pkN code ((((q + 1) + 1) + 1 + 1) + 1) 12 129 hc fun x6 x61 x62 => ?_
             simp only [go_sem,rdH]
             have x62 := x62 (by omega)
             with_reducible repeat' (first | rw [i64w (by omega)]; try simp only [go_sem] | refine br ?_ ?_ <;> intro h e <;> (try simp only [e,go_sem]) <;> clear e | (first | refine sk ?_ | refine sd ?_) <;> try simp only [go_sem] | fail)
             exact finE code p w ((((q + 1) + 1) + 1 + 1) + 1 + 1) ⟨1,0,x6,(ints6.getD x3.toNat default),.zero⟩
           · exact finE code p w ((((q + 1) + 1) + 1 + 1) + 1) ⟨1,0,(max (X - Y * 3) 0),(ints6.getD x3.toNat default),.zero⟩
        iterate 3
         · have := 0
           have hac := acks 0 (by omega)
           have hck : 0 < w.convs.length := by omega
           try simp only [getD_mp hck,go_sem]
           with_reducible repeat' (first | rw [i64w (by omega)]; try simp only [go_sem,getD_mp hck] | refine br ?_ ?_ <;> intro h e <;> (try simp only [e,go_sem,getD_mp hck]) <;> clear e | (first | refine sk ?_ | refine sd ?_) <;> try simp only [go_sem,getD_mp hck] | fail)
           refine pkN code ((q + 1) + 1) 6 99 hc fun x1 x11 x12 => ?_
           simp only [go_sem,rdH]
           have x12 := x12 (by omega)
           have hd5 := div5 x11 x12
           generalize hX : (w.convs.getD 0 default).downAck = X at *
           generalize hY : x1.tdiv 5 = Y at *
           have w1 : IntKind.i64.wrap Y = Y := i64w (by omega)
           have w2 : IntKind.i64.wrap (Y * 3) = Y * 3 := i64w (by omega)
           have w3 : IntKind.i64.wrap (X - Y * 3) = X - Y * 3 := i64w (by omega)
           try simp only [hX,hY,w1,w2,w3,ints6_e,go_sem]
           with_reducible repeat' (first | refine br ?_ ?_ <;> intro h e <;> (try simp only [e,go_sem,getD_mp hck,hX,hY,w1,w2,w3,ints6_e]) <;> clear e | rw [i64w (by omega)] | (first | refine sk ?_ | refine sd ?_) <;> try simp only [go_sem,getD_mp hck,hX,hY,w1,w2,w3,ints6_e] | fail)
           refine pkN code (((q + 1) + 1) + 1) 6 107 hc fun x3 x31 x32 => ?_
           simp only [go_sem,rdH]
           have x32 := x32 (by omega)
           have h6 := lt6 x31 x32
           have h6' : (x3 : Int) < ints6.length := by omega
           try simp only [getD_mp h6,ints6_e,ints6_l,List.length_map,go_sem]
           with_reducible repeat' (first | refine br ?_ ?_ <;> intro h e <;> (try simp only [e,go_sem,getD_mp h6,ints6_e,ints6_l,List.length_map]) <;> clear e | rw [i64w (by omega)] | (first | refine sk ?_ | refine sd ?_) <;> try simp only [go_sem,getD_mp h6,ints6_e,ints6_l,List.length_map] | fail)
           refine pkN code (((q + 1) + 1) + 1 + 1) 5 126 hc fun x5 x51 x52 => ?_
           simp only [go_sem,rdH]
           have x52 := x52 (by omega)
           with_reducible repeat' (first | rw [i64w (by omega)]; try simp only [go_sem] | refine br ?_ ?_ <;> intro h e <;> (try simp only [e,go_sem]) <;> clear e | (first | refine sk ?_ | refine sd ?_) <;> try simp only [go_sem] | fail)
           · have := 0
             refine pkN code ((((q + 1) + 1) + 1 + 1) + 1) 12 129 hc fun x6 x61 x62 => ?_
             simp only [go_sem,rdH]
             have x62 := x62 (by omega)
             with_reducible repeat' (first | rw [i64w (by omega)]; try simp only [go_sem] | refine br ?_ ?_ <;> intro h e <;> (try simp only [e,go_sem]) <;> clear e | (first | refine sk ?_ | refine sd ?_) <;> try simp only [go_sem] | fail)
             exact finE code p w ((((q + 1) + 1) + 1 + 1) + 1 + 1) ⟨2,0,x6,(ints6.getD x3.toNat default),.zero⟩
           · exact finE code p w ((((q + 1) + 1) + 1 + 1) + 1) ⟨2,0,(max (X - Y * 3) 0),(ints6.getD x3.toNat default),.zero⟩
        · have := 0
          refine pkN code ((q + 1) + 1) (w.nets.length + 1) 116 hc fun x1 x11 x12 => ?_
          simp only [go_sem,rdH]
          with_reducible repeat' (first | rw [i64w (by omega)]; try simp only [go_sem] | refine br ?_ ?_ <;> intro h e <;> (try simp only [e,go_sem]) <;> clear e | (first | refine sk ?_ | refine sd ?_) <;> try simp only [go_sem] | fail)
          exact finE code p w (((q + 1) + 1) + 1) ⟨4,x1,0,0,.zero⟩
        · have := 0
          refine pkN code ((q + 1) + 1) (w.nets.length + 1) 123 hc fun x1 x11 x12 => ?_
          simp only [go_sem,rdH]
          with_reducible repeat' (first | rw [i64w (by omega)]; try simp only [go_sem] | refine br ?_ ?_ <;> intro h e <;> (try simp only [e,go_sem]) <;> clear e | (first | refine sk ?_ | refine sd ?_) <;> try simp only [go_sem] | fail)
          exact finE code p w (((q + 1) + 1) + 1) ⟨5,x1,0,0,.zero⟩
        · have := 0
          refine pkN code ((q + 1) + 1) 2 39 hc fun x1 x11 x12 => ?_
          simp only [go_sem,rdH]
          have x12 := x12 (by omega)
          with_reducible repeat' (first | rw [i64w (by omega)]; try simp only [go_sem] | refine br ?_ ?_ <;> intro h e <;> (try simp only [e,go_sem]) <;> clear e | (first | refine sk ?_ | refine sd ?_) <;> try simp only [go_sem] | fail)
          refine pkN code (((q + 1) + 1) + 1) 9 42 hc fun x2 x21 x22 => ?_
          simp only [go_sem,rdH]
          have x22 := x22 (by omega)
          with_reducible repeat' (first | rw [i64w (by omega)]; try simp only [go_sem] | refine br ?_ ?_ <;> intro h e <;> (try simp only [e,go_sem]) <;> clear e | (first | refine sk ?_ | refine sd ?_) <;> try simp only [go_sem] | fail)
          refine pkN code (((q + 1) + 1) + 1 + 1) 3 46 hc fun x3 x31 x32 => ?_
          simp only [go_sem,rdH]
          have x32 := x32 (by omega)
          with_reducible repeat' (first | rw [i64w (by omega)]; try simp only [go_sem] | refine br ?_ ?_ <;> intro h e <;> (try simp only [e,go_sem]) <;> clear e | (first | refine sk ?_ | refine sd ?_) <;> try simp only [go_sem] | fail)
          refine pkN code (((q + 1) + 1) + 1 + 1 + 1) 6 50 hc fun x4 x41 x42 => ?_
          simp only [go_sem,rdH]
          have x42 := x42 (by omega)
          with_reducible repeat' (first | rw [i64w (by omega)]; try simp only [go_sem] | refine br ?_ ?_ <;> intro h e <;> (try simp only [e,go_sem]) <;> clear e | (first | refine sk ?_ | refine sd ?_) <;> try simp only [go_sem] | fail)
          · have := 0
            refine callN (c127 code (((q + 1) + 1) + 1 + 1 + 1 + 1) 8 hc (by omega) (by omega)) [0] [] true 56 1 (by simp only [go_sem,rdH]; first | done | simp) (by simp only [go_sem,rdH]; first | done | simp) (by simp) (by simp) (by simp) ?_ ?_ ?_
            · rintro _ _ ⟨q',_,_,rfl,_⟩
              exact ⟨by simp,by simp,.inl rfl,fun i hi => by obtain rfl : i = 0 := (by omega); simp [chH,stepOk,rdH]⟩
            · intro i hi; obtain rfl : i = 0 := (by omega); simp only [go_sem]
            rintro _ _ ⟨q7,q71,q72,rfl,s,hs,rfl⟩
            simp only [go_sem,rdH]
            with_reducible repeat' (first | rw [i64w (by omega)]; try simp only [go_sem] | refine br ?_ ?_ <;> intro h e <;> (try simp only [e,go_sem]) <;> clear e | (first | refine sk ?_ | refine sd ?_) <;> try simp only [go_sem] | fail)
            exact finE code p w q7 ⟨6,0,0,0,⟨1 + x1,⟨6,1 + x2⟩,⟨9,10 + x3⟩,x4,s ++ [113]⟩⟩
          · exact finE code p w (((q + 1) + 1) + 1 + 1 + 1 + 1) ⟨6,0,0,0,⟨1 + x1,⟨6,1 + x2⟩,⟨9,10 + x3⟩,x4,[]⟩⟩
      · have := 0
        have hal : a.toNat < w.convs.length := by omega
        refine pkN code (q + 1) 10 37 hc fun b b1 b2 => ?_
        simp only [go_sem,rdH]
        with_reducible repeat' (first | rw [i64w (by omega)]; try simp only [go_sem] | refine br ?_ ?_ <;> intro h e <;> (try simp only [e,go_sem]) <;> clear e | (first | refine sk ?_ | refine sd ?_) <;> try simp only [go_sem] | fail)
        iterate 4
         · have := 0
           have hac := acks a.toNat (by omega)
           have hck : a.toNat < w.convs.length := by omega
           try simp only [getD_mp hck,go_sem]
           with_reducible repeat' (first | rw [i64w (by omega)]; try simp only [go_sem,getD_mp hck] | refine br ?_ ?_ <;> intro h e <;> (try simp only [e,go_sem,getD_mp hck]) <;> clear e | (first | refine sk ?_ | refine sd ?_) <;> try simp only [go_sem,getD_mp hck] | fail)
           refine pkN code ((q + 1) + 1) 6 74 hc fun x1 x11 x12 => ?_
           simp only [go_sem,rdH]
           have x12 := x12 (by omega)
           have hd5 := div5 x11 x12
           generalize hX : (w.convs.getD a.toNat default).upAck = X at *
           generalize hY : x1.tdiv 5 = Y at *
           have w1 : IntKind.i64.wrap Y = Y := i64w (by omega)
           have w2 : IntKind.i64.wrap (Y * 3) = Y * 3 := i64w (by omega)
           have w3 : IntKind.i64.wrap (X - Y * 3) = X - Y * 3 := i64w (by omega)
           try simp only [hX,hY,w1,w2,w3,ints6_e,go_sem]
           with_reducible repeat' (first | refine br ?_ ?_ <;> intro h e <;> (try simp only [e,go_sem,getD_mp hck,hX,hY,w1,w2,w3,ints6_e]) <;> clear e | rw [i64w (by omega)] | (first | refine sk ?_ | refine sd ?_) <;> try simp only [go_sem,getD_mp hck,hX,hY,w1,w2,w3,ints6_e] | fail)
           refine pkN code (((q + 1) + 1) + 1) 6 82 hc fun x3 x31 x32 => ?_
           simp only [go_sem,rdH]
           have x32 := x32 (by omega)
           have h6 := lt6 x31 x32
           have h6' : (x3 : Int) < ints6.length := by omega
           try simp only [getD_mp h6,ints6_e,ints6_l,List.length_map,go_sem]
           with_reducible repeat' (first | refine br ?_ ?_ <;> intro h e <;> (try simp only [e,go_sem,getD_mp h6,ints6_e,ints6_l,List.length_map]) <;> clear e | rw [i64w (by omega)] | (first | refine sk ?_ | refine sd ?_) <;> try simp only [go_sem,getD_mp h6,ints6_e,ints6_l,List.length_map] | fail)
           refine pkN code (((q + 1) + 1) + 1 + 1) 5 126 hc fun x5 x51 x52 => ?_
           simp only [go_sem,rdH]
           have x52 := x52 (by omega)
           with_reducible repeat' (first | rw [i64w (by omega)]; try simp only [go_sem] | refine br ?_ ?_ <;> intro h e <;> (try simp only [e,go_sem]) <;> clear e | (first | refine sk ?_ | refine sd ?_) <;> try simp only [go_sem] | fail)
           · have := 0
             refine pkN code ((((q + 1) + 1) + 1 + 1) + 1) 12 129 hc fun x6 x61 x62 => ?_
             simp only [go_sem,rdH]
             have x62 := x62 (by omega)
             with_reducible repeat' (first | rw [i64w (by omega)]; try simp only [go_sem] | refine br ?_ ?_ <;> intro h e <;> (try simp only [e,go_sem]) <;> clear e | (first | refine sk ?_ | refine sd ?_) <;> try simp only [go_sem] | fail)
             exact finE code p w ((((q + 1) + 1) + 1 + 1) + 1 + 1) ⟨1,a,x6,(ints6.getD x3.toNat default),.zero⟩
           · exact finE code p w ((((q + 1) + 1) + 1 + 1) + 1) ⟨1,a,(max (X - Y * 3) 0),(ints6.getD x3.toNat default),.zero⟩
        iterate 3
         · have := 0
           have hac := acks a.toNat (by omega)
           have hck : a.toNat < w.convs.length := by omega
           try simp only [getD_mp hck,go_sem]
           with_reducible repeat' (first | rw [i64w (by omega)]; try simp only [go_sem,getD_mp hck] | refine br ?_ ?_ <;> intro h e <;> (try simp only [e,go_sem,getD_mp hck]) <;> clear e | (first | refine sk ?_ | refine sd ?_) <;> try simp only [go_sem,getD_mp hck] | fail)
           refine pkN code ((q + 1) + 1) 6 99 hc fun x1 x11 x12 => ?_
           simp only [go_sem,rdH]
           have x12 := x12 (by omega)
           have hd5 := div5 x11 x12
           generalize hX : (w.convs.getD a.toNat default).downAck = X at *
           generalize hY : x1.tdiv 5 = Y at *
           have w1 : IntKind.i64.wrap Y = Y := i64w (by omega)
           have w2 : IntKind.i64.wrap (Y * 3) = Y * 3 := i64w (by omega)
           have w3 : IntKind.i64.wrap (X - Y * 3) = X - Y * 3 := i64w (by omega)
           try simp only [hX,hY,w1,w2,w3,ints6_e,go_sem]
           with_reducible repeat' (first | refine br ?_ ?_ <;> intro h e <;> (try simp only [e,go_sem,getD_mp hck,hX,hY,w1,w2,w3,ints6_e]) <;> clear e | rw [i64w (by omega)] | (first | refine sk ?_ | refine sd ?_) <;> try simp only [go_sem,getD_mp hck,hX,hY,w1,w2,w3,ints6_e] | fail)
           refine pkN code (((q + 1) + 1) + 1) 6 107 hc fun x3 x31 x32 => ?_
           simp only [go_sem,rdH]
           have x32 := x32 (by omega)
           have h6 := lt6 x31 x32
           have h6' : (x3 : Int) < ints6.length := by omega
           try simp only [getD_mp h6,ints6_e,ints6_l,List.length_map,go_sem]
           with_reducible repeat' (first | refine br ?_ ?_ <;> intro h e <;> (try simp only [e,go_sem,getD_mp h6,ints6_e,ints6_l,List.length_map]) <;> clear e | rw [i64w (by omega)] | (first | refine sk ?_ | refine sd ?_) <;> try simp only [go_sem,getD_mp h6,ints6_e,ints6_l,List.length_map] | fail)
           refine pkN code (((q + 1) + 1) + 1 + 1) 5 126 hc fun x5 x51 x52 => ?_
           simp only [go_sem,rdH]
           have x52 := x52 (by omega)
           with_reducible repeat' (first | rw [i64w (by omega)]; try simp only [go_sem] | refine br ?_ ?_ <;> intro h e <;> (try simp only [e,go_sem]) <;> clear e | (first | refine sk ?_ | refine sd ?_) <;> try simp only [go_sem] | fail)
           · have := 0
             refine pkN code ((((q + 1) + 1) + 1 + 1) + 1) 12 129 hc fun x6 x61 x62 => ?_
             simp only [go_sem,rdH]
             have x62 := x62 (by omega)
             with_reducible repeat' (first | rw [i64w (by omega)]; try simp only [go_sem] | refine br ?_ ?_ <;> intro h e <;> (try simp only [e,go_sem]) <;> clear e | (first | refine sk ?_ | refine sd ?_) <;> try simp only [go_sem] | fail)
             exact finE code p w ((((q + 1) + 1) + 1 + 1) + 1 + 1) ⟨2,a,x6,(ints6.getD x3.toNat default),.zero⟩
           · exact finE code p w ((((q + 1) + 1) + 1 + 1) + 1) ⟨2,a,(max (X - Y * 3) 0),(ints6.getD x3.toNat default),.zero⟩
        · have := 0
          refine pkN code ((q + 1) + 1) (w.nets.length + 1) 116 hc fun x1 x11 x12 => ?_
          simp only [go_sem,rdH]
          with_reducible repeat' (first | rw [i64w (by omega)]; try simp only [go_sem] | refine br ?_ ?_ <;> intro h e <;> (try simp only [e,go_sem]) <;> clear e | (first | refine sk ?_ | refine sd ?_) <;> try simp only [go_sem] | fail)
          exact finE code p w (((q + 1) + 1) + 1) ⟨4,x1,0,0,.zero⟩
        · have := 0
          refine pkN code ((q + 1) + 1) (w.nets.length + 1) 123 hc fun x1 x11 x12 => ?_
          simp only [go_sem,rdH]
          with_reducible repeat' (first | rw [i64w (by omega)]; try simp only [go_sem] | refine br ?_ ?_ <;> intro h e <;> (try simp only [e,go_sem]) <;> clear e | (first | refine sk ?_ | refine sd ?_) <;> try simp only [go_sem] | fail)
          exact finE code p w (((q + 1) + 1) + 1) ⟨5,x1,0,0,.zero⟩
        · have := 0
          refine pkN code ((q + 1) + 1) 2 39 hc fun x1 x11 x12 => ?_
          simp only [go_sem,rdH]
          have x12 := x12 (by omega)
          with_reducible repeat' (first | rw [i64w (by omega)]; try simp only [go_sem] | refine br ?_ ?_ <;> intro h e <;> (try simp only [e,go_sem]) <;> clear e | (first | refine sk ?_ | refine sd ?_) <;> try simp only [go_sem] | fail)
          refine pkN code (((q + 1) + 1) + 1) 9 42 hc fun x2 x21 x22 => ?_
          simp only [go_sem,rdH]
          have x22 := x22 (by omega)
          with_reducible repeat' (first | rw [i64w (by omega)]; try simp only [go_sem] | refine br ?_ ?_ <;> intro h e <;> (try simp only [e,go_sem]) <;> clear e | (first | refine sk ?_ | refine sd ?_) <;> try simp only [go_sem] | fail)
          refine pkN code (((q + 1) + 1) + 1 + 1) 3 46 hc fun x3 x31 x32 => ?_
          simp only [go_sem,rdH]
          have x32 := x32 (by omega)
          with_reducible repeat' (first | rw [i64w (by omega)]; try simp only [go_sem] | refine br ?_ ?_ <;> intro h e <;> (try simp only [e,go_sem]) <;> clear e | (first | refine sk ?_ | refine sd ?_) <;> try simp only [go_sem] | fail)
          refine pkN code (((q + 1) + 1) + 1 + 1 + 1) 6 50 hc fun x4 x41 x42 => ?_
          simp only [go_sem,rdH]
          have x42 := x42 (by omega)
          with_reducible repeat' (first | rw [i64w (by omega)]; try simp only [go_sem] | refine br ?_ ?_ <;> intro h e <;> (try simp only [e,go_sem]) <;> clear e | (first | refine sk ?_ | refine sd ?_) <;> try simp only [go_sem] | fail)
          · have := 0
            refine callN (c127 code (((q + 1) + 1) + 1 + 1 + 1 + 1) 8 hc (by omega) (by omega)) [0] [] true 56 1 (by simp only [go_sem,rdH]; first | done | simp) (by simp only [go_sem,rdH]; first | done | simp) (by simp) (by simp) (by simp) ?_ ?_ ?_
            · rintro _ _ ⟨q',_,_,rfl,_⟩
              exact ⟨by simp,by simp,.inl rfl,fun i hi => by obtain rfl : i = 0 := (by omega); simp [chH,stepOk,rdH]⟩
            · intro i hi; obtain rfl : i = 0 := (by omega); simp only [go_sem]
            rintro _ _ ⟨q7,q71,q72,rfl,s,hs,rfl⟩
            simp only [go_sem,rdH]
            with_reducible repeat' (first | rw [i64w (by omega)]; try simp only [go_sem] | refine br ?_ ?_ <;> intro h e <;> (try simp only [e,go_sem]) <;> clear e | (first | refine sk ?_ | refine sd ?_) <;> try simp only [go_sem] | fail)
            exact finE code p w q7 ⟨6,0,0,0,⟨1 + x1,⟨6,1 + x2⟩,⟨9,10 + x3⟩,x4,s ++ [113]⟩⟩
          · exact finE code p w (((q + 1) + 1) + 1 + 1 + 1 + 1) ⟨6,0,0,0,⟨1 + x1,⟨6,1 + x2⟩,⟨9,10 + x3⟩,x4,[]⟩⟩
  · have := 0
    with_reducible repeat' (first | rw [i64w (by omega)]; try simp only [go_sem] | refine br ?_ ?_ <;> intro h e <;> (try simp only [e,go_sem]) <;> clear e | (first | refine sk ?_ | refine sd ?_) <;> try simp only [go_sem] | fail)
    refine pkN code p (w.convs.length + 1) 27 hc fun a a1 a2 => ?_
    simp only [go_sem,rdH]
    have a2 := a2 (by omega)
    with_reducible repeat' (first | rw [i64w (by omega)]; try simp only [go_sem] | refine br ?_ ?_ <;> intro h e <;> (try simp only [e,go_sem]) <;> clear e | (first | refine sk ?_ | refine sd ?_) <;> try simp only [go_sem] | fail)
    · have := 0
      refine pkN code (p + 1) 10 37 hc fun b b1 b2 => ?_
      simp only [go_sem,rdH]
      with_reducible repeat' (first | rw [i64w (by omega)]; try simp only [go_sem] | refine br ?_ ?_ <;> intro h e <;> (try simp only [e,go_sem]) <;> clear e | (first | refine sk ?_ | refine sd ?_) <;> try simp only [go_sem] | fail)
      iterate 4
       · have := 0
         have hac := acks 0 (by omega)
         have hck : 0 < w.convs.length := by omega
         try simp only [getD_mp hck,go_sem]
         with_reducible repeat' (first | rw [i64w (by omega)]; try simp only [go_sem,getD_mp hck] | refine br ?_ ?_ <;> intro h e <;> (try simp only [e,go_sem,getD_mp hck]) <;> clear e | (first | refine sk ?_ | refine sd ?_) <;> try simp only [go_sem,getD_mp hck] | fail)
         refine pkN code ((p + 1) + 1) 6 74 hc fun x1 x11 x12 => ?_
         simp only [go_sem,rdH]
         have x12 := x12 (by omega)
         have hd5 := div5 x11 x12
         generalize hX : (w.convs.getD 0 default).upAck = X at *
         generalize hY : x1.tdiv 5 = Y at *
         have w1 : IntKind.i64.wrap Y = Y := i64w (by omega)
         have w2 : IntKind.i64.wrap (Y * 3) = Y * 3 := i64w (by omega)
         have w3 : IntKind.i64.wrap (X - Y * 3) = X - Y * 3 := i64w (by omega)
         try simp only [hX,hY,w1,w2,w3,ints6_e,go_sem]
         with_reducible repeat' (first | refine br ?_ ?_ <;> intro h e <;> (try simp only [e,go_sem,getD_mp hck,hX,hY,w1,w2,w3,ints6_e]) <;> clear e | rw [i64w (by omega)] | (first | refine sk ?_ | refine sd ?_) <;> try simp only [go_sem,getD_mp hck,hX,hY,w1,w2,w3,ints6_e] | fail)
         refine pkN code (((p + 1) + 1) + 1) 6 82 hc fun x3 x31 x32 => ?_
         simp only [go_sem,rdH]
         have x32 := x32 (by omega)
         have h6 := lt6 x31 x32
         have h6' : (x3 : Int) < ints6.length := by omega
         try simp only [getD_mp h6,ints6_e,ints6_l,List.length_map,go_sem]
         with_reducible repeat' (first | refine br ?_ ?_ <;> intro h e <;> (try simp only [e,go_sem,getD_mp h6,ints6_e,ints6_l,List.length_map]) <;> clear e | rw [i64w (by omega)] | (first | refine sk ?_ | refine sd ?_) <;> try simp only [go_sem,getD_mp h6,ints6_e,ints6_l,List.length_map] | fail)
         refine pkN code (((p + 1) + 1) + 1 + 1) 5 126 hc fun x5 x51 x52 => ?_
         simp only [go_sem,rdH]
         have x52 := x52 (by omega)
         with_reducible repeat' (first | rw [i64w (by omega)]; try simp only [go_sem] | refine br ?_ ?_ <;> intro h e <;> (try simp only [e,go_sem]) <;> clear e | (first | refine sk ?_ | refine sd ?_) <;> try simp only [go_sem] | fail)
         · have := 0
           refine pkN code ((((p + 1) + 1) + 1 + 1) + 1) 12 129 hc fun x6 x61 x62 => ?_
           simp only [go_sem,rdH]
           have x62 := x62 (by omega)
           with_reducible repeat' (first | rw [i64w (by omega)]; try simp only [go_sem] | refine br ?_ ?_ <;> intro h e <;> (try simp only [e,go_sem]) <;> clear e | (first | refine sk ?_ | refine sd ?_) <;> try simp only [go_sem] | fail)
           exact finE code p w ((((p + 1) + 1) + 1 + 1) + 1 + 1) ⟨1,0,x6,(ints6.getD x3.toNat default),.zero⟩
         · exact finE code p w ((((p + 1) + 1) + 1 + 1) + 1) ⟨1,0,(max (X - Y * 3) 0),(ints6.getD x3.toNat default),.zero⟩
      iterate 3
       · have := 0
         have hac := acks 0 (by omega)
         have hck : 0 < w.convs.length := by omega
         try simp only [getD_mp hck,go_sem]
         with_reducible repeat' (first | rw [i64w (by omega)]; try simp only [go_sem,getD_mp hck] | refine br ?_ ?_ <;> intro h e <;> (try simp only [e,go_sem,getD_mp hck]) <;> clear e | (first | refine sk ?_ | refine sd ?_) <;> try simp only [go_sem,getD_mp hck] | fail)
         refine pkN code ((p + 1) + 1) 6 99 hc fun x1 x11 x12 => ?_
         simp only [go_sem,rdH]
         have x12 := x12 (by omega)
         have hd5 := div5 x11 x12
         generalize hX : (w.convs.getD 0 default).downAck = X at *
         generalize hY : x1.tdiv 5 = Y at *
         have w1 : IntKind.i64.wrap Y = Y := i64w (by omega)
         have w2 : IntKind.i64.wrap (Y * 3) = Y * 3 := i64w (by omega)
         have w3 : IntKind.i64.wrap (X - Y * 3) = X - Y * 3 := i64w (by omega)
         try simp only [hX,hY,w1,w2,w3,ints6_e,go_sem]
         with_reducible repeat' (first | refine br ?_ ?_ <;> intro h e <;> (try simp only [e,go_sem,getD_mp hck,hX,hY,w1,w2,w3,ints6_e]) <;> clear e | rw [i64w (by omega)] | (first | refine sk ?_ | refine sd ?_) <;> try simp only [go_sem,getD_mp hck,hX,hY,w1,w2,w3,ints6_e] | fail)
         refine pkN code (((p + 1) + 1) + 1) 6 107 hc fun x3 x31 x32 => ?_
         simp only [go_sem,rdH]
         have x32 := x32 (by omega)
         have h6 := lt6 x31 x32
         have h6' : (x3 : Int) < ints6.length := by omega
         try simp only [getD_mp h6,ints6_e,ints6_l,List.length_map,go_sem]
         with_reducible repeat' (first | refine br ?_ ?_ <;> intro h e <;> (try simp only [e,go_sem,getD_mp h6,ints6_e,ints6_l,List.length_map]) <;> clear e | rw [i64w (by omega)] | (first | refine sk ?_ | refine sd ?_) <;> try simp only [go_sem,getD_mp h6,ints6_e,ints6_l,List.length_map] | fail)
         refine pkN code (((p + 1) + 1) + 1 + 1) 5 126 hc fun x5 x51 x52 => ?_
         simp only [go_sem,rdH]
         have x52 := x52 (by omega)
         with_reducible repeat' (first | rw [i64w (by omega)]; try simp only [go_sem] | refine br ?_ ?_ <;> intro h e <;> (try simp only [e,go_sem]) <;> clear e | (first | refine sk ?_ | refine sd ?_) <;> try simp only [go_sem] | fail)
         · have := 0
           refine pkN code ((((p + 1) + 1) + 1 + 1) + 1) 12 129 hc fun x6 x61 x62 => ?_
           simp only [go_sem,rdH]
           have x62 := x62 (by omega)
           with_reducible repeat' (first | rw [i64w (by omega)]; try simp only [go_sem] | refine br ?_ ?_ <;> intro h e <;> (try simp only [e,go_sem]) <;> clear e | (first | refine sk ?_ | refine sd ?_) <;> try simp only [go_sem] | fail)
           exact finE code p w ((((p + 1) + 1) + 1 + 1) + 1 + 1) ⟨2,0,x6,(ints6.getD x3.toNat default),.zero⟩
         · exact finE code p w ((((p + 1) + 1) + 1 + 1) + 1) ⟨2,0,(max (X - Y * 3) 0),(ints6.getD x3.toNat default),.zero⟩
      · have := 0
        refine pkN code ((p + 1) + 1) (w.nets.length + 1) 116 hc fun x1 x11 x12 => ?_
        simp only [go_sem,rdH]
        with_reducible repeat' (first | rw [i64w (by omega)]; try simp only [go_sem] | refine br ?_ ?_ <;> intro h e <;> (try simp only [e,go_sem]) <;> clear e | (first | refine sk ?_ | refine sd ?_) <;> try simp only [go_sem] | fail)
        exact finE code p w (((p + 1) + 1) + 1) ⟨4,x1,0,0,.zero⟩
      · have := 0
        refine pkN code ((p + 1) + 1) (w.nets.length + 1) 123 hc fun x1 x11 x12 => ?_
        simp only [go_sem,rdH]
        with_reducible repeat' (first | rw [i64w (by omega)]; try simp only [go_sem] | refine br ?_ ?_ <;> intro h e <;> (try simp only [e,go_sem]) <;> clear e | (first | refine sk ?_ | refine sd ?_) <;> try simp only [go_sem] | fail)
        exact finE code p w (((p + 1) + 1) + 1) ⟨5,x1,0,0,.zero⟩
      · have := 0
        refine pkN code ((p + 1) + 1) 2 39 hc fun x1 x11 x12 => ?_
        simp only [go_sem,rdH]
        have x12 := x12 (by omega)
        with_reducible repeat' (first | rw [i64w (by omega)]; try simp only [go_sem] | refine br ?_ ?_ <;> intro h e <;> (try simp only [e,go_sem]) <;> clear e | (first | refine sk ?_ | refine sd ?_) <;> try simp only [go_sem] | fail)
        refine pkN code (((p + 1) + 1) + 1) 9 42 hc fun x2 x21 x22 => ?_
        simp only [go_sem,rdH]
        have x22 := x22 (by omega)
        with_reducible repeat' (first | rw [i64w (by omega)]; try simp only [go_sem] | refine br ?_ ?_ <;> intro h e <;> (try simp only [e,go_sem]) <;> clear e | (first | refine sk ?_ | refine sd ?_) <;> try simp only [go_sem] | fail)
        refine pkN code (((p + 1) + 1) + 1 + 1) 3 46 hc fun x3 x31 x32 => ?_
        simp only [go_sem,rdH]
        have x32 := x32 (by omega)
        with_reducible repeat' (first | rw [i64w (by omega)]; try simp only [go_sem] | refine br ?_ ?_ <;> intro h e <;> (try simp only [e,go_sem]) <;> clear e | (first | refine sk ?_ | refine sd ?_) <;> try simp only [go_sem] | fail)
        refine pkN code (((p + 1) + 1) + 1 + 1 + 1) 6 50 hc fun x4 x41 x42 => ?_
        simp only [go_sem,rdH]
        have x42 := x42 (by omega)
        with_reducible repeat' (first | rw [i64w (by omega)]; try simp only [go_sem] | refine br ?_ ?_ <;> intro h e <;> (try simp only [e,go_sem]) <;> clear e | (first | refine sk ?_ | refine sd ?_) <;> try simp only [go_sem] | fail)
        · have := 0
          refine callN (c127 code (((p + 1) + 1) + 1 + 1 + 1 + 1) 8 hc (by omega) (by omega)) [0] [] true 56 1 (by simp only [go_sem,rdH]; first | done | simp) (by simp only [go_sem,rdH]; first | done | simp) (by simp) (by simp) (by simp) ?_ ?_ ?_
          · rintro _ _ ⟨q',_,_,rfl,_⟩
            exact ⟨by simp,by simp,.inl rfl,fun i hi => by obtain rfl : i = 0 := (by omega); simp [chH,stepOk,rdH]⟩
          · intro i hi; obtain rfl : i = 0 := (by omega); simp only [go_sem]
          rintro _ _ ⟨q7,q71,q72,rfl,s,hs,rfl⟩
          simp only [go_sem,rdH]
          with_reducible repeat' (first | rw [i64w (by omega)]; try simp only [go_sem] | refine br ?_ ?_ <;> intro h e <;> (try simp only [e,go_sem]) <;> clear e | (first | refine sk ?_ | refine sd ?_) <;> try simp only [go_sem] | fail)
          exact finE code p w q7 ⟨6,0,0,0,⟨1 + x1,⟨6,1 + x2⟩,⟨9,10 + x3⟩,x4,s ++ [113]⟩⟩
        · exact finE code p w (((p + 1) + 1) + 1 + 1 + 1 + 1) ⟨6,0,0,0,⟨1 + x1,⟨6,1 + x2⟩,⟨9,10 + x3⟩,x4,[]⟩⟩
    · have := 0
      have hal : a.toNat < w.convs.length := by omega
      refine pkN code (p + 1) 10 37 hc fun b b1 b2 => ?_
      simp only [go_sem,rdH]
      with_reducible repeat' (first | rw [i64w (by omega)]; try simp only [go_sem] | refine br ?_ ?_ <;> intro h e <;> (try simp only [e,go_sem]) <;> clear e | (first | refine sk ?_ | refine sd ?_) <;> try simp only [go_sem] | fail)
      iterate 4
       · have := 0
         have hac := acks a.toNat (by omega)
         have hck : a.toNat < w.convs.length := by omega
         try simp only [getD_mp hck,go_sem]
         with_reducible repeat' (first | rw [i64w (by omega)]; try simp only [go_sem,getD_mp hck] | refine br ?_ ?_ <;> intro h e <;> (try simp only [e,go_sem,getD_mp hck]) <;> clear e | (first | refine sk ?_ | refine sd ?_) <;> try simp only [go_sem,getD_mp hck] | fail)
         refine pkN code ((p + 1) + 1) 6 74 hc fun x1 x11 x12 => ?_
         simp only [go_sem,rdH]
         have x12 := x12 (by omega)
         have hd5 := div5 x11 x12
         generalize hX : (w.convs.getD a.toNat default).upAck = X at *
         generalize hY : x1.tdiv 5 = Y at *
         have w1 : IntKind.i64.wrap Y = Y := i64w (by omega)
         have w2 : IntKind.i64.wrap (Y * 3) = Y * 3 := i64w (by omega)
         have w3 : IntKind.i64.wrap (X - Y * 3) = X - Y * 3 := i64w (by omega)
         try simp only [hX,hY,w1,w2,w3,ints6_e,go_sem]
         with_reducible repeat' (first | refine br ?_ ?_ <;> intro h e <;> (try simp only [e,go_sem,getD_mp hck,hX,hY,w1,w2,w3,ints6_e]) <;> clear e | rw [i64w (by omega)] | (first | refine sk ?_ | refine sd ?_) <;> try simp only [go_sem,getD_mp hck,hX,hY,w1,w2,w3,ints6_e] | fail)
         refine pkN code (((p + 1) + 1) + 1) 6 82 hc fun x3 x31 x32 => ?_
         simp only [go_sem,rdH]
         have x32 := x32 (by omega)
         have h6 := lt6 x31 x32
         have h6' : (x3 : Int) < ints6.length := by omega
         try simp only [getD_mp h6,ints6_e,ints6_l,List.length_map,go_sem]
         with_reducible repeat' (first | refine br ?_ ?_ <;> intro h e <;> (try simp only [e,go_sem,getD_mp h6,ints6_e,ints6_l,List.length_map]) <;> clear e | rw [i64w (by omega)] | (first | refine sk ?_ | refine sd ?_) <;> try simp only [go_sem,getD_mp h6,ints6_e,ints6_l,List.length_map] | fail)
         refine pkN code (((p + 1) + 1) + 1 + 1) 5 126 hc fun x5 x51 x52 => ?_
         simp only [go_sem,rdH]
         have x52 := x52 (by omega)
         with_reducible repeat' (first | rw [i64w (by omega)]; try simp only [go_sem] | refine br ?_ ?_ <;> intro h e <;> (try simp only [e,go_sem]) <;> clear e | (first | refine sk ?_ | refine sd ?_) <;> try simp only [go_sem] | fail)
         · have := 0
           refine pkN code ((((p + 1) + 1) + 1 + 1) + 1) 12 129 hc fun x6 x61 x62 => ?_
           simp only [go_sem,rdH]
           have x62 := x62 (by omega)
           with_reducible repeat' (first | rw [i64w (by omega)]; try simp only [go_sem] | refine br ?_ ?_ <;> intro h e <;> (try simp only [e,go_sem]) <;> clear e | (first | refine sk ?_ | refine sd ?_) <;> try simp only [go_sem] | fail)
           exact finE code p w ((((p + 1) + 1) + 1 + 1) + 1 + 1) ⟨1,a,x6,(ints6.getD x3.toNat default),.zero⟩
         · exact finE code p w ((((p + 1) + 1) + 1 + 1) + 1) ⟨1,a,(max (X - Y * 3) 0),(ints6.getD x3.toNat default),.zero⟩
      iterate 3
       · have := 0
         have hac := acks a.toNat (by omega)
         have hck : a.toNat < w.convs.length := by omega
         try simp only [getD_mp hck,go_sem]
         with_reducible repeat' (first | rw [i64w (by omega)]; try simp only [go_sem,getD_mp hck] | refine br ?_ ?_ <;> intro h e <;> (try simp only [e,go_sem,getD_mp hck]) <;> clear e | (first | refine sk ?_ | refine sd ?_) <;> try simp only [go_sem,getD_mp hck] | fail)
         refine pkN code ((p + 1) + 1) 6 99 hc fun x1 x11 x12 => ?_
         simp only [go_sem,rdH]
         have x12 := x12 (by omega)
         have hd5 := div5 x11 x12
         generalize hX : (w.convs.getD a.toNat default).downAck = X at *
         generalize hY : x1.tdiv 5 = Y at *
         have w1 : IntKind.i64.wrap Y = Y := i64w (by omega)
         have w2 : IntKind.i64.wrap (Y * 3) = Y * 3 := i64w (by omega)
         have w3 : IntKind.i64.wrap (X - Y * 3) = X - Y * 3 := i64w (by omega)
         try simp only [hX,hY,w1,w2,w3,ints6_e,go_sem]
         with_reducible repeat' (first | refine br ?_ ?_ <;> intro h e <;> (try simp only [e,go_sem,getD_mp hck,hX,hY,w1,w2,w3,ints6_e]) <;> clear e | rw [i64w (by omega)] | (first | refine sk ?_ | refine sd ?_) <;> try simp only [go_sem,getD_mp hck,hX,hY,w1,w2,w3,ints6_e] | fail)
         refine pkN code (((p + 1) + 1) + 1) 6 107 hc fun x3 x31 x32 => ?_
         simp only [go_sem,rdH]
         have x32 := x32 (by omega)
         have h6 := lt6 x31 x32
         have h6' : (x3 : Int) < ints6.length := by omega
         try simp only [getD_mp h6,ints6_e,ints6_l,List.length_map,go_sem]
         with_reducible repeat' (first | refine br ?_ ?_ <;> intro h e <;> (try simp only [e,go_sem,getD_mp h6,ints6_e,ints6_l,List.length_map]) <;> clear e | rw [i64w (by omega)] | (first | refine sk ?_ | refine sd ?_) <;> try simp only [go_sem,getD_mp h6,ints6_e,ints6_l,List.length_map] | fail)
         refine pkN code (((p + 1) + 1) + 1 + 1) 5 126 hc fun x5 x51 x52 => ?_
         simp only [go_sem,rdH]
         have x52 := x52 (by omega)
         with_reducible repeat' (first | rw [i64w (by omega)]; try simp only [go_sem] | refine br ?_ ?_ <;> intro h e <;> (try simp only [e,go_sem]) <;> clear e | (first | refine sk ?_ | refine sd ?_) <;> try simp only [go_sem] | fail)
         · have := 0
           refine pkN code ((((p + 1) + 1) + 1 + 1) + 1) 12 129 hc fun x6 x61 x62 => ?_
           simp only [go_sem,rdH]
           have x62 := x62 (by omega)
           with_reducible repeat' (first | rw [i64w (by omega)]; try simp only [go_sem] | refine br ?_ ?_ <;> intro h e <;> (try simp only [e,go_sem]) <;> clear e | (first | refine sk ?_ | refine sd ?_) <;> try simp only [go_sem] | fail)
           exact finE code p w ((((p + 1) + 1) + 1 + 1) + 1 + 1) ⟨2,a,x6,(ints6.getD x3.toNat default),.zero⟩
         · exact finE code p w ((((p + 1) + 1) + 1 + 1) + 1) ⟨2,a,(max (X - Y * 3) 0),(ints6.getD x3.toNat default),.zero⟩
      · have := 0
        refine pkN code ((p + 1) + 1) (w.nets.length + 1) 116 hc fun x1 x11 x12 => ?_
        simp only [go_sem,rdH]
        with_reducible repeat' (first | rw [i64w (by omega)]; try simp only [go_sem] | refine br ?_ ?_ <;> intro h e <;> (try simp only [e,go_sem]) <;> clear e | (first | refine sk ?_ | refine sd ?_) <;> try simp only [go_sem] | fail)
        exact finE code p w (((p + 1) + 1) + 1) ⟨4,x1,0,0,.zero⟩
      · have := 0
        refine pkN code ((p + 1) + 1) (w.nets.length + 1) 123 hc fun x1 x11 x12 => ?_
        simp only [go_sem,rdH]
        with_reducible repeat' (first | rw [i64w (by omega)]; try simp only [go_sem] | refine br ?_ ?_ <;> intro h e <;> (try simp only [e,go_sem]) <;> clear e | (first | refine sk ?_ | refine sd ?_) <;> try simp only [go_sem] | fail)
        exact finE code p w (((p + 1) + 1) + 1) ⟨5,x1,0,0,.zero⟩
      · have := 0
        refine pkN code ((p + 1) + 1) 2 39 hc fun x1 x11 x12 => ?_
        simp only [go_sem,rdH]
        have x12 := x12 (by omega)
        with_reducible repeat' (first | rw [i64w (by omega)]; try simp only [go_sem] | refine br ?_ ?_ <;> intro h e <;> (try simp only [e,go_sem]) <;> clear e | (first | refine sk ?_ | refine sd ?_) <;> try simp only [go_sem] | fail)
        refine pkN code (((p + 1) + 1) + 1) 9 42 hc fun x2 x21 x22 => ?_
        simp only [go_sem,rdH]
        have x22 := x22 (by omega)
        with_reducible repeat' (first | rw [i64w (by omega)]; try simp only [go_sem] | refine br ?_ ?_ <;> intro h e <;> (try simp only [e,go_sem]) <;> clear e | (first | refine sk ?_ | refine sd ?_) <;> try simp only [go_sem] | fail)
        refine pkN code (((p + 1) + 1) + 1 + 1) 3 46 hc fun x3 x31 x32 => ?_
        simp only [go_sem,rdH]
        have x32 := x32 (by omega)
        with_reducible repeat' (first | rw [i64w (by omega)]; try simp only [go_sem] | refine br ?_ ?_ <;> intro h e <;> (try simp only [e,go_sem]) <;> clear e | (first | refine sk ?_ | refine sd ?_) <;> try simp only [go_sem] | fail)
        refine pkN code (((p + 1) + 1) + 1 + 1 + 1) 6 50 hc fun x4 x41 x42 => ?_
        simp only [go_sem,rdH]
        have x42 := x42 (by omega)
        with_reducible repeat' (first | rw [i64w (by omega)]; try simp only [go_sem] | refine br ?_ ?_ <;> intro h e <;> (try simp only [e,go_sem]) <;> clear e | (first | refine sk ?_ | refine sd ?_) <;> try simp only [go_sem] | fail)
        · have := 0
          refine callN (c127 code (((p + 1) + 1) + 1 + 1 + 1 + 1) 8 hc (by omega) (by omega)) [0] [] true 56 1 (by simp only [go_sem,rdH]; first | done | simp) (by simp only [go_sem,rdH]; first | done | simp) (by simp) (by simp) (by simp) ?_ ?_ ?_
          · rintro _ _ ⟨q',_,_,rfl,_⟩
            exact ⟨by simp,by simp,.inl rfl,fun i hi => by obtain rfl : i = 0 := (by omega); simp [chH,stepOk,rdH]⟩
          · intro i hi; obtain rfl : i = 0 := (by omega); simp only [go_sem]
          rintro _ _ ⟨q7,q71,q72,rfl,s,hs,rfl⟩
          simp only [go_sem,rdH]
          with_reducible repeat' (first | rw [i64w (by omega)]; try simp only [go_sem] | refine br ?_ ?_ <;> intro h e <;> (try simp only [e,go_sem]) <;> clear e | (first | refine sk ?_ | refine sd ?_) <;> try simp only [go_sem] | fail)
          exact finE code p w q7 ⟨6,0,0,0,⟨1 + x1,⟨6,1 + x2⟩,⟨9,10 + x3⟩,x4,s ++ [113]⟩⟩
        · exact finE code p w (((p + 1) + 1) + 1 + 1 + 1 + 1) ⟨6,0,0,0,⟨1 + x1,⟨6,1 + x2⟩,⟨9,10 + x3⟩,x4,[]⟩⟩
def ic244 : IC := sR [oP 6 (.mv (.c s0)),oP 7 (.mv (.c (.bool false)))] (sR [mV 9 0,oP 10 (.lens (.t 9)),mV 8 10] (.seq (sR [mV 11 1,mV 12 8,bN 13 .gtr 11 12,mV 14 13,⟨some 15,some (14,false),.mv (.t 1)⟩,⟨some 16,some (14,false),.mv (.t 2)⟩,⟨some 17,some (14,false),.lens (.t 16)⟩,⟨some 18,some (14,false),.bin .add (.t 15) (.t 17)⟩,⟨some 19,some (14,false),.bin .gtr (.t 18) (.c (.int .i64 40))⟩,oP 20 (.pick (.t 14) (.c (.bool true)) (.t 19))] (.cond (.t 20) (sR [mV 21 0,mV 6 21,oP 7 (.mv (.c (.bool false)))] .ret) .skip)) (.seq (sR [mV 22 1,mV 23 2,oP 24 (.lens (.t 23)),bN 25 .add 22 24,mV 26 8,bN 27 .leq 25 26] (.cond (.t 27) (sR [mV 28 0,mV 6 28,oP 7 (.mv (.c (.bool true)))] .ret) .skip)) (sR [mV 29 0,mV 30 2,mV 31 8,mV 32 1,bN 33 .sub 31 32,oP 34 (.sls (.t 30) (some (.t 33)) none),bN 35 .add 29 34,mV 6 35,oP 7 (.mv (.c (.bool true)))] .ret))))
theorem dg244 : digF Tryz.prog Tryz.f244 = some (ic244,[(.t 6),(.t 7)]) := by kernel_rfl
theorem en244 : entr Tryz.prog 244 = true := by kernel_rfl
theorem c244 (came : B) (n : Int) (text : B) (hn : 0 ≤ n ∧ n ≤ 1000) (hc : came.length ≤ 1000) (ht : text.length ≤ 1000) : FnR Tryz.prog G 244 [.str came,.int .i64 n,.str text] (.tup [.str (behind came n text).1,.bool (behind came n text).2]) := by
  refine FnR.mkF Tryz.func244 en244 dg244 Tryz.ntmps244 (by simp) ?_
  simp only [ic244,go_sem]
  with_reducible repeat' (first | rw [i64w (by omega)]; try simp only [go_sem] | refine br ?_ ?_ <;> intro h e <;> (try simp only [e,go_sem]) <;> clear e | (first | refine sk ?_ | refine sd ?_) <;> try simp only [go_sem] | fail)
  · have : behind came n text = (came,false) := by
      unfold behind; rw [if_pos (by simp; omega)]
    rw [this]; exact ⟨rfl,rfl⟩
  · have : behind came n text = (came,false) := by
      unfold behind; rw [if_pos (by simp; omega)]
    rw [this]; exact ⟨rfl,rfl⟩
  · have : behind came n text = (came,true) := by
      unfold behind; rw [if_neg (by simp; omega),if_pos (by omega)]
    rw [this]; exact ⟨rfl,rfl⟩
  · refine pureG (by simp; omega) ?_
    simp only [go_sem]
    have : behind came n text = (came ++ text.drop (came.length - n).toNat,true) := by
      unfold behind; rw [if_neg (by simp; omega),if_neg (by omega)]
    rw [this,List.take_length]; exact ⟨rfl,rfl⟩
def ic150 : IC := sR [oP 2 (.mv (.c (.bool false)))] (sR [mV 3 0,oP 4 (.call 102 [.t 3]),mV 5 4,⟨some 6,some (5,true),.mv (.t 0)⟩,⟨some 7,some (5,true),.lens (.t 6)⟩,⟨some 8,some (5,true),.bin .leq (.t 7) (.c (.int .i64 24))⟩,oP 9 (.pick (.t 5) (.t 8) (.c (.bool false))),mV 10 9,⟨some 11,some (10,true),.mv (.t 0)⟩,⟨some 12,some (10,true),.call 126 [.t 11]⟩,⟨some 13,some (10,true),.bin .eql (.t 12) (.c i0)⟩,oP 14 (.pick (.t 10) (.t 13) (.c (.bool false))),mV 2 14] .ret)
theorem dg150 : digF Tryz.prog Tryz.f150 = some (ic150,[(.t 2)]) := by kernel_rfl
theorem en150 : entr Tryz.prog 150 = true := by kernel_rfl
theorem c150 (t : B) (hl : t.length ≤ 2000000) : FnR Tryz.prog G 150 [.str t] (.bool (saying t)) := by
  refine FnR.mkF Tryz.func150 en150 dg150 Tryz.ntmps150 (by simp) ?_
  simp only [ic150,go_sem]
  have c1 := c102 t hl
  have c2 := c126 t hl
  with_reducible repeat' (first | refine br ?_ ?_ <;> intro h e <;> (try simp only [e,go_sem]) <;> clear e | rw [i64w (by omega)] | (first | refine sk ?_ | refine sd ?_) <;> try simp only [go_sem] | (first | refine cr (c1 ..) ?_ | refine cr (c2 ..) ?_) <;> try simp only [go_sem] | fail)
  all_goals simp_all [saying]
  all_goals omega
def ic151 : IC := sR [oP 2 (.mv (.c (.bool false)))] (sR [mV 5 0,oP 6 (.call 193 [.t 5]),mV 3 6] (.seq (sR [oP 4 (.mv (.c i0))] (.block 0 (.loop (.seq (sR [mV 7 4,mV 8 3,oP 9 (.len (.t 8)),bN 10 .lss 7 9] (.cond (.t 10) .skip (.exit 0))) (.seq (.block 1 (sR [mV 13 3,mV 14 4,oP 15 (.iad 2 (.t 13) (.t 14)),lA 16 2 15,oP 17 (.call 154 [.t 16])] (.cond (.t 17) (sR [oP 2 (.mv (.c (.bool false)))] .ret) .skip))) (.reg [mV 11 4,oP 12 (.bin .add (.t 11) (.c (.int .i64 1))),mV 4 12])))))) (sR [oP 2 (.mv (.c (.bool true)))] .ret)))
theorem dg151 : digF Tryz.prog Tryz.f151 = some (ic151,[(.t 2)]) := by kernel_rfl
theorem en151 : entr Tryz.prog 151 = true := by kernel_rfl
theorem c151 (t : B) (hl : t.length ≤ 2000000) : FnR Tryz.prog G 151 [.str t] (.bool (ownT t)) := by
  refine FnR.mkF Tryz.func151 en151 dg151 Tryz.ntmps151 (by simp) ?_
  simp only [ic151,go_sem]
  refine callR (c193 t hl) rfl rfl ?_
  simp only [go_sem]
  have hnl : (textNames t).length ≤ 2000000 := by
    have h1 := textPieces_len t
    have h2 := names_le (textPieces t)
    unfold textNames; omega
  unfold ownT
  generalize textNames t = l at *
  refine loopN (fun i : Nat => ⟨getL [(3,.sl 2 (l.map E.row)),(4,.int .i64 (i : Int))],getH []⟩) (fun i => l.length - i) (fun i => i ≤ l.length ∧ (l.take i).any E.door = false) 0 (leQ []) ⟨Nat.zero_le _,by simp⟩ ?_
  intro i ⟨hi,ha⟩
  simp only [go_sem]
  by_cases h : (i : Int) < l.length
  · simp only [eq_true h,go_sem]
    have hil : i < l.length := by omega
    have hg : l.getD i default = l[i] := by simp [List.getD,hil]
    refine effG (by omega) ?_
    simp only [hg,go_sem]
    with_reducible repeat' (first | refine br ?_ ?_ <;> intro h e <;> (try simp only [e,go_sem,hg]) <;> clear e | rw [i64w (by omega)] | (first | refine sk ?_ | refine sd ?_) <;> try simp only [go_sem,hg] | (first | refine cr (c154 ..) ?_) <;> try simp only [go_sem,hg] | fail)
    · have : l.any E.door = true := List.any_eq_true.2 ⟨_,List.getElem_mem hil,by assumption⟩
      rw [this]; rfl
    · refine ⟨i + 1,by omega,⟨by omega, ?_⟩,(leQ [])⟩
      rw [List.take_add_one,List.getElem?_eq_getElem hil]
      simp only [Option.toList_some,List.any_append,ha,List.any_cons,List.any_nil,Bool.or_false,Bool.false_or]
      assumption
  · simp only [eq_false h,go_sem]
    have : i = l.length := by omega
    subst this
    rw [List.take_length] at ha
    rw [ha]; rfl
def ic84 : IC := sR [oP 4 (.box 38 (.t 0)),oP 5 (.box 38 (.t 1)),oP 8 (.alloc 42 [i0,i0,i0,i0,s0,s0,i0,i0,s0,s0]),oP 9 (.mv (.c (.bool false)))] (.seq (sR [lA 10 2 4,oP 11 (.call 43 [.t 10]),oP 12 (.un .not (.t 11)),mV 13 12,⟨some 14,some (13,false),.ld 2 true (.t 5)⟩,⟨some 15,some (13,false),.call 44 [.t 14]⟩,⟨some 16,some (13,false),.un .not (.t 15)⟩,oP 17 (.pick (.t 13) (.c (.bool true)) (.t 16)),mV 18 17,⟨some 19,some (18,false),.mv (.t 2)⟩,⟨some 20,some (18,false),.call 150 [.t 19]⟩,⟨some 21,some (18,false),.un .not (.t 20)⟩,oP 22 (.pick (.t 18) (.c (.bool true)) (.t 21)),mV 23 22,⟨some 24,some (23,false),.mv (.t 2)⟩,⟨some 25,some (23,false),.call 151 [.t 24]⟩,⟨some 26,some (23,false),.un .not (.t 25)⟩,oP 27 (.pick (.t 23) (.c (.bool true)) (.t 26)),mV 28 27,⟨some 29,some (28,false),.mv (.t 3)⟩,⟨some 30,some (28,false),.call 150 [.t 29]⟩,⟨some 31,some (28,false),.un .not (.t 30)⟩,oP 32 (.pick (.t 28) (.c (.bool true)) (.t 31))] (.cond (.t 32) (sR [oP 33 (.build [i0,i0,i0,i0,s0,s0,i0,i0,s0,s0] []),nP (.sto 10 (.t 8) (.t 33)),oP 9 (.mv (.c (.bool false)))] .ret) .skip)) (sR [lA 34 2 4,lA 35 2 5,mV 36 2,mV 37 3,oP 38 (.build [i0,i0,i0,i0,s0,s0,i0,i0,s0,s0] [(0,(2,.t 34)),(2,(2,.t 35)),(4,(1,.t 36)),(5,(1,.t 37))]),nP (.sto 10 (.t 8) (.t 38)),oP 9 (.mv (.c (.bool true)))] .ret))
theorem dg84 : digF Tryz.prog Tryz.f84 = some (ic84,[(.cell 8 10 true),(.t 9)]) := by kernel_rfl
theorem en84 : entr Tryz.prog 84 = true := by kernel_rfl
theorem c84 (i o : E) (up down : B) (h1 : up.length ≤ 2000000) (h2 : down.length ≤ 2000000) : FnR Tryz.prog G 84 [.agg [.int .i64 i.a,.int .i64 i.p],.agg [.int .i64 o.a,.int .i64 o.p],.str up,.str down]
    (.tup [.agg (Conv.row ((convNew i o up down).getD .zero)),.bool (convNew i o up down).isSome]) := by
  refine FnR.mkF Tryz.func84 en84 dg84 Tryz.ntmps84 (by simp) ?_
  simp only [ic84,go_sem]
  have c1 := c150 up h1
  have c2 := c150 down h2
  have c3 := c151 up h1
  with_reducible repeat' (first | refine br ?_ ?_ <;> intro h e <;> (try simp only [e,go_sem]) <;> clear e | rw [i64w (by omega)] | (first | refine sk ?_ | refine sd ?_) <;> try simp only [go_sem] | (first | refine cr (c43 ..) ?_ | refine cr (c44 ..) ?_ | refine cr (c1 ..) ?_ | refine cr (c2 ..) ?_ | refine cr (c3 ..) ?_) <;> try simp only [go_sem] | fail)
  all_goals simp_all [convNew,Conv.zero,E.zero]
def ic152 : IC := sR [oP 1 (.box 42 (.t 0)),oP 2 (.mv (.c (.bool false)))] (sR [fD 6 0 1,lA 7 2 6,fD 8 2 1,lA 9 2 8,fD 10 4 1,lD 11 1 10,fD 12 5 1,lD 13 1 12,oP 14 (.call 84 [.t 7,.t 9,.t 11,.t 13]),mV 5 14,eX 15 5 0,eX 16 5 1,oP 3 (.alloc 42 [i0,i0,i0,i0,s0,s0,i0,i0,s0,s0]),nP (.sto 10 (.t 3) (.t 15)),mV 4 16] (sR [mV 17 4,mV 18 17,⟨some 19,some (18,true),.fad 6 (.t 1)⟩,⟨some 20,some (18,true),.ld 1 false (.t 19)⟩,⟨some 21,some (18,true),.fad 4 (.t 1)⟩,⟨some 22,some (18,true),.ld 1 false (.t 21)⟩,⟨some 23,some (18,true),.lens (.t 22)⟩,⟨some 24,some (18,true),.call 101 [.t 20,.c i0,.t 23]⟩,oP 25 (.pick (.t 18) (.t 24) (.c (.bool false))),mV 26 25,⟨some 27,some (26,true),.fad 7 (.t 1)⟩,⟨some 28,some (26,true),.ld 1 false (.t 27)⟩,⟨some 29,some (26,true),.fad 5 (.t 1)⟩,⟨some 30,some (26,true),.ld 1 false (.t 29)⟩,⟨some 31,some (26,true),.lens (.t 30)⟩,⟨some 32,some (26,true),.call 101 [.t 28,.c i0,.t 31]⟩,oP 33 (.pick (.t 26) (.t 32) (.c (.bool false))),mV 34 33,⟨some 35,some (34,true),.fad 8 (.t 1)⟩,⟨some 36,some (34,true),.ld 1 false (.t 35)⟩,⟨some 37,some (34,true),.call 102 [.t 36]⟩,oP 38 (.pick (.t 34) (.t 37) (.c (.bool false))),mV 39 38,⟨some 40,some (39,true),.fad 9 (.t 1)⟩,⟨some 41,some (39,true),.ld 1 false (.t 40)⟩,⟨some 42,some (39,true),.call 102 [.t 41]⟩,oP 43 (.pick (.t 39) (.t 42) (.c (.bool false))),mV 2 43] .ret))
theorem dg152 : digF Tryz.prog Tryz.f152 = some (ic152,[(.t 2)]) := by kernel_rfl
theorem en152 : entr Tryz.prog 152 = true := by kernel_rfl
theorem c152 (c : Conv) (h1 : c.up.length ≤ 2000000) (h2 : c.down.length ≤ 2000000) (h3 : c.upGot.length ≤ 2000000) (h4 : c.downGot.length ≤ 2000000) : FnR Tryz.prog G 152 [.agg [.int .i64 c.ins.a,.int .i64 c.ins.p,.int .i64 c.out.a,.int .i64 c.out.p,.str c.up,.str c.down,.int .i64 c.upAck,.int .i64 c.downAck,.str c.upGot,.str c.downGot]] (.bool (convOk c)) := by
  refine FnR.mkF Tryz.func152 en152 dg152 Tryz.ntmps152 (by simp) ?_
  simp only [ic152,go_sem]
  refine callR (c84 c.ins c.out c.up c.down h1 h2) rfl rfl ?_
  simp only [go_sem]
  have c1 := c102 c.upGot h3
  have c2 := c102 c.downGot h4
  with_reducible repeat' (first | refine br ?_ ?_ <;> intro h e <;> (try simp only [e,go_sem]) <;> clear e | rw [i64w (by omega)] | (first | refine sk ?_ | refine sd ?_) <;> try simp only [go_sem] | (first | refine cr (c101 ..) ?_ | refine cr (c1 ..) ?_ | refine cr (c2 ..) ?_) <;> try simp only [go_sem] | fail)
  all_goals simp_all [convOk]
def ic94 : IC := sR [oP 5 (.box 42 (.t 0)),oP 10 (.alloc 40 [i0,i0,i0,i0,i0,i0,s0]),oP 11 (.mv (.c (.bool false)))] (sR [fD 14 0 5,lA 15 2 14,fD 16 2 5,lA 17 2 16,mV 18 3,oP 19 (.build [i0,i0,i0,i0,i0,i0,s0] [(0,(1,.c (.int .i64 1))),(1,(2,.t 15)),(3,(2,.t 17)),(5,(1,.t 18))]),oP 12 (.alloc 40 [i0,i0,i0,i0,i0,i0,s0]),nP (.sto 7 (.t 12) (.t 19))] (sR [fD 20 4 5,lD 21 1 20,mV 13 21] (.seq (sR [mV 22 1,oP 23 (.un .not (.t 22))] (.cond (.t 23) (sR [fD 24 2 5,lA 25 2 24,fD 26 1 12,nP (.sto 2 (.t 26) (.t 25))] (sR [mV 27 2,oP 28 (.build [i0,i0] [(0,(1,.c (.int .i64 9))),(1,(1,.t 27))]),fD 29 3 12,nP (.sto 2 (.t 29) (.t 28))] (.reg [fD 30 5 5,lD 31 1 30,mV 13 31]))) .skip)) (.seq (sR [mV 32 3,mV 33 13,oP 34 (.lens (.t 33)),oP 35 (.bin .sub (.t 34) (.c (.int .i64 1))),oP 36 (.call 101 [.t 32,.c i0,.t 35]),oP 37 (.un .not (.t 36)),mV 38 37,⟨some 39,some (38,false),.mv (.t 4)⟩,⟨some 40,some (38,false),.bin .lss (.t 39) (.c (.int .i64 1))⟩,oP 41 (.pick (.t 38) (.c (.bool true)) (.t 40)),mV 42 41,⟨some 43,some (42,false),.mv (.t 1)⟩,⟨some 44,some (42,false),.un .not (.t 43)⟩,⟨some 45,some (42,false),.mv (.t 44)⟩,⟨some 46,some (45,true),.fad 3 (.t 12)⟩,⟨some 47,some (45,true),.ld 2 true (.t 46)⟩,⟨some 48,some (45,true),.call 154 [.t 47]⟩,⟨some 49,some (45,true),.un .not (.t 48)⟩,⟨some 50,some (42,false),.pick (.t 45) (.t 49) (.c (.bool false))⟩,oP 51 (.pick (.t 42) (.c (.bool true)) (.t 50))] (.cond (.t 51) (sR [oP 52 (.build [i0,i0,i0,i0,i0,i0,s0] []),nP (.sto 7 (.t 10) (.t 52)),oP 11 (.mv (.c (.bool false)))] .ret) .skip)) (sR [mV 53 13,mV 54 3,mV 55 3,mV 56 4,mV 57 13,oP 58 (.lens (.t 57)),mV 59 3,bN 60 .sub 58 59,oP 61 (.mn (.t 56) (.t 60)),bN 62 .add 55 61,oP 63 (.sls (.t 53) (some (.t 54)) (some (.t 62))),fD 64 6 12,nP (.sto 1 (.t 64) (.t 63))] (sR [lA 65 7 12,nP (.sto 7 (.t 10) (.t 65)),oP 11 (.mv (.c (.bool true)))] .ret))))))
theorem dg94 : digF Tryz.prog Tryz.f94 = some (ic94,[(.cell 10 7 true),(.t 11)]) := by kernel_rfl
theorem en94 : entr Tryz.prog 94 = true := by kernel_rfl
theorem c94 (c : Conv) (up : Bool) (port n m : Int) (h1 : c.up.length ≤ 2000000) (h2 : c.down.length ≤ 2000000) : FnR Tryz.prog G 94 [.agg [.int .i64 c.ins.a,.int .i64 c.ins.p,.int .i64 c.out.a,.int .i64 c.out.p,.str c.up,.str c.down,.int .i64 c.upAck,.int .i64 c.downAck,.str c.upGot,.str c.downGot],.bool up,.int .i64 port,.int .i64 n,.int .i64 m]
    (.tup [.agg (Pk.row ((say c up port n m).getD .zero)),.bool (say c up port n m).isSome]) := by
  refine FnR.mkF Tryz.func94 en94 dg94 Tryz.ntmps94 (by simp) ?_
  simp only [ic94,go_sem]
  cases up <;> simp only [go_sem]
  · have hno := fun h => say_no (c := c) (up := false) (port := port) (n := n) (m := m) h
    have hyes := fun h1 h2 h3 => say_yes (c := c) (up := false) (port := port) (n := n) (m := m) h1 h2 h3
    simp only [cond_false,true_and,Bool.false_eq_true,false_or] at hno hyes
    rw [i64w (by omega)]
    refine callR (c101 n 0 ((c.down.length : Int) - 1)) rfl rfl ?_
    cases hw : within n 0 ((c.down.length : Int) - 1) <;> simp only [go_sem]
    · rw [hno (.inl hw)]; simp [Pk.zero,E.zero]
    have hw2 := M.within_iff.1 hw
    have w1 : IntKind.i64.wrap ((c.down.length : Int) - n) = c.down.length - n := i64w (by omega)
    have w2 : 1 ≤ m → IntKind.i64.wrap (n + min m ((c.down.length : Int) - n)) = n + min m ((c.down.length : Int) - n) := fun _ => i64w (by omega)
    with_reducible repeat' (first | refine br ?_ ?_ <;> intro h e <;> (try simp only [e,go_sem,w1]) <;> clear e | rw [i64w (by omega)] | (first | refine sk ?_ | refine sd ?_) <;> try simp only [go_sem,w1] | (first | refine cr (c154 ..) ?_) <;> try simp only [go_sem,w1] | fail)
    · rw [hno (.inr (.inl (by assumption)))]; simp [Pk.zero,E.zero]
    · rw [hyes hw (by omega) (by assumption),take_drop_len (by omega) (by omega)]
      simp
    · rw [hno (.inr (.inr (by assumption)))]; simp [Pk.zero,E.zero]
  · have hno := fun h => say_no (c := c) (up := true) (port := port) (n := n) (m := m) h
    have hyes := fun h1 h2 h3 => say_yes (c := c) (up := true) (port := port) (n := n) (m := m) h1 h2 h3
    simp only [cond_true,true_or,true_implies,Bool.true_eq_false,false_and,or_false] at hno hyes
    rw [i64w (by omega)]
    refine callR (c101 n 0 ((c.up.length : Int) - 1)) rfl rfl ?_
    cases hw : within n 0 ((c.up.length : Int) - 1) <;> simp only [go_sem]
    · rw [hno (.inl hw)]; simp [Pk.zero,E.zero]
    have hw2 := M.within_iff.1 hw
    have w1 : IntKind.i64.wrap ((c.up.length : Int) - n) = c.up.length - n := i64w (by omega)
    have w2 : 1 ≤ m → IntKind.i64.wrap (n + min m ((c.up.length : Int) - n)) = n + min m ((c.up.length : Int) - n) := fun _ => i64w (by omega)
    with_reducible repeat' (first | refine br ?_ ?_ <;> intro h e <;> (try simp only [e,go_sem,w1]) <;> clear e | rw [i64w (by omega)] | (first | refine sk ?_ | refine sd ?_) <;> try simp only [go_sem,w1] | (first | refine cr (c154 ..) ?_) <;> try simp only [go_sem,w1] | fail)
    · rw [hno (.inr (by assumption))]; simp [Pk.zero,E.zero]
    · rw [hyes hw (by omega),take_drop_len (by omega) (by omega)]
      simp
def worldA (w : M.World) (r : V) (out : List Hs) : Prop := r = .agg [.own 0 w.convs.length,.own 1 w.door.map.length,.own 2 w.door.flows.length,.own 3 w.nets.length] ∧ out = [.arr 42 10 (w.convs.map Conv.row),.arr 98 3 (w.door.map.map Pair.row),.arr 91 8 (w.door.flows.map Flw.row),.arr 40 7 (w.nets.map Pk.row)]
theorem worldRet {w : M.World} {l : List (Nat × V)} {mm : List (Nat × Hs)} {d c : Nat} (n0 n1 n2 n3 : Nat) (h4 : getL l d = .pv c 0)
    (m4 : getH mm c = .var 33 [.own n0 w.convs.length,.own n1 w.door.map.length,.own n2 w.door.flows.length,.own n3 w.nets.length])
    (m0 : getH mm n0 = .arr 42 10 (w.convs.map Conv.row)) (m1 : getH mm n1 = .arr 98 3 (w.door.map.map Pair.row)) (m2 : getH mm n2 = .arr 91 8 (w.door.flows.map Flw.row)) (m3 : getH mm n3 = .arr 40 7 (w.nets.map Pk.row))
    (hne : [n0,n1,n2,n3].Nodup) : retQ [.cell d 4 true] 0 (worldA w) .ret ⟨getL l,getH mm⟩ := by
  refine retN (.agg [.own 0 w.convs.length,.own 1 w.door.map.length,.own 2 w.door.flows.length,.own 3 w.nets.length]) [.arr 42 10 (w.convs.map Conv.row),.arr 98 3 (w.door.map.map Pair.row),.arr 91 8 (w.door.flows.map Flw.row),.arr 40 7 (w.nets.map Pk.row)] [(0,n0),(1,n1),(2,n2),(3,n3)] ?_ ⟨rfl,rfl⟩ ?_ (by simpa [argH,getN] using hne) (by simp only [go_sem])
  · simp only [go_sem,h4,m4]
  · simp only [go_sem,m0,m1,m2,m3]
theorem opt_b (o : Option Pk) : (bif o.isSome then some (o.getD .zero) else none) = o := by cases o <;> rfl
def ic95 : IC := sR [oP 2 (.box 33 (.t 0)),oP 3 (.box 38 (.t 1)),oP 4 (.mv (.c i0))] (.seq (sR [oP 5 (.mv (.c i0))] (.block 0 (.loop (.seq (sR [mV 6 5,fD 7 1 2,fD 8 0 7,lD 9 1 8,oP 10 (.len (.t 9)),bN 11 .lss 6 10] (.cond (.t 11) .skip (.exit 0))) (.seq (.block 1 (.seq (.drw [0,1,3,0,15,31,63,0,255] [(0,fD 14 1 2),(1,fD 15 0 14),(2,lD 16 1 15),(3,mV 17 5),(4,oP 18 (.iad 3 (.t 16) (.t 17))),(5,fD 19 1 18),(6,lA 20 2 19),(7,lA 21 2 3),(8,oP 22 (.eqs false [.i,.i] (.t 20) (.t 21)))]) (.cond (.t 22) (sR [fD 23 1 2,fD 24 0 23,lD 25 1 24,mV 26 5,oP 27 (.iad 3 (.t 25) (.t 26)),fD 28 0 27,lD 29 1 28,mV 4 29] .ret) .skip))) (.reg [mV 12 5,oP 13 (.bin .add (.t 12) (.c (.int .i64 1))),mV 5 13])))))) (sR [oP 4 (.mv (.c i0))] .ret))
theorem dg95 : digF Tryz.prog Tryz.f95 = some (ic95,[(.t 4)]) := by kernel_rfl
theorem en95 : entr Tryz.prog 95 = true := by kernel_rfl
theorem c95 (w : M.World) (i : E) (hl : w.door.map.length ≤ 2000000) : FnR Tryz.prog G 95 [.agg [.sl 10 (w.convs.map Conv.row),.sl 3 (w.door.map.map Pair.row),.sl 8 (w.door.flows.map Flw.row),.sl 7 (w.nets.map Pk.row)],.agg [.int .i64 i.a,.int .i64 i.p]] (.int .i64 (portOf w.door.map i)) := by
  refine FnR.mkF Tryz.func95 en95 dg95 Tryz.ntmps95 (by simp) ?_
  simp only [ic95,go_sem]
  refine loopN (fun k : Nat => ⟨getL [(2,.pv 1002 0),(3,.pv 1003 0),(5,.int .i64 (k : Int))],getH [(1002,.var 33 [.sl 10 (w.convs.map Conv.row),.sl 3 (w.door.map.map Pair.row),.sl 8 (w.door.flows.map Flw.row),.sl 7 (w.nets.map Pk.row)]),(1003,.var 38 [.int .i64 i.a,.int .i64 i.p])]⟩) (fun k => w.door.map.length - k)
    (fun k => k ≤ w.door.map.length ∧ portOf w.door.map i = portOf (w.door.map.drop k) i) 0 (leQ []) ⟨Nat.zero_le _,by simp⟩ ?_
  intro k ⟨hk,ha⟩
  simp only [go_sem]
  by_cases h : (k : Int) < w.door.map.length
  · have hil : k < w.door.map.length := by omega
    have hg : w.door.map.getD k default = w.door.map[k] := by simp [List.getD,hil]
    rw [List.drop_eq_getElem_cons hil,portOf_cons] at ha
    simp only [eq_true h,go_sem]
    with_reducible repeat' (first | refine br ?_ ?_ <;> intro h e <;> (try simp only [e,go_sem,hg,E.ext_iff']) <;> clear e | rw [i64w (by omega)] | (first | refine sk ?_ | refine sd ?_) <;> try simp only [go_sem,hg,E.ext_iff'] | fail)
    · rw [if_pos (by assumption)] at ha
      rw [ha]
    · rw [if_neg (by assumption)] at ha
      exact ⟨k + 1,by omega,⟨by omega,ha⟩,(leQ [])⟩
  · simp only [eq_false h,go_sem]
    have : k = w.door.map.length := by omega
    subst this
    rw [ha,List.drop_length]; rfl
def ic89 : IC := sR [oP 2 (.box 33 (.t 0)),oP 3 (.box 40 (.t 1)),oP 4 (.mv (.c (.bool false)))] (.seq (sR [oP 5 (.mv (.c i0))] (.block 0 (.loop (.seq (sR [mV 6 5,fD 7 0 2,lD 8 1 7,oP 9 (.len (.t 8)),bN 10 .lss 6 9] (.cond (.t 10) .skip (.exit 0))) (.seq (.block 1 (.seq (.drw [0,1,0,7,15,31,0,64,255] [(0,fD 13 0 2),(1,lD 14 1 13),(2,mV 15 5),(3,oP 16 (.iad 10 (.t 14) (.t 15))),(4,fD 17 2 16),(5,lA 18 2 17),(6,fD 19 1 3),(7,lA 20 2 19),(8,oP 21 (.eqs false [.i,.i] (.t 18) (.t 20)))]) (.cond (.t 21) (sR [oP 4 (.mv (.c (.bool false)))] .ret) .skip))) (.reg [mV 11 5,oP 12 (.bin .add (.t 11) (.c (.int .i64 1))),mV 5 12])))))) (sR [lA 22 7 3,oP 23 (.call 42 [.t 22]),mV 24 23,⟨some 25,some (24,true),.fad 1 (.t 3)⟩,⟨some 26,some (24,true),.ld 2 true (.t 25)⟩,⟨some 27,some (24,true),.call 44 [.t 26]⟩,oP 28 (.pick (.t 24) (.t 27) (.c (.bool false))),mV 29 28,⟨some 30,some (29,true),.fad 3 (.t 3)⟩,⟨some 31,some (29,true),.ld 2 true (.t 30)⟩,⟨some 32,some (29,true),.call 154 [.t 31]⟩,oP 33 (.pick (.t 29) (.t 32) (.c (.bool false))),mV 4 33] .ret))
theorem dg89 : digF Tryz.prog Tryz.f89 = some (ic89,[(.t 4)]) := by kernel_rfl
theorem en89 : entr Tryz.prog 89 = true := by kernel_rfl
theorem c89 (w : M.World) (p : Pk) (hl : w.convs.length ≤ 2000000) (ht : p.text.length ≤ 2000000) : FnR Tryz.prog G 89 [.agg [.sl 10 (w.convs.map Conv.row),.sl 3 (w.door.map.map Pair.row),.sl 8 (w.door.flows.map Flw.row),.sl 7 (w.nets.map Pk.row)],.agg [.int .i64 p.kind,.int .i64 p.frm.a,.int .i64 p.frm.p,.int .i64 p.to.a,.int .i64 p.to.p,.int .i64 p.at_,.str p.text]] (.bool (stranger w p)) := by
  refine FnR.mkF Tryz.func89 en89 dg89 Tryz.ntmps89 (by simp) ?_
  simp only [ic89,go_sem]
  refine loopN (fun k : Nat => ⟨getL [(2,.pv 1002 0),(3,.pv 1003 0),(5,.int .i64 (k : Int))],getH [(1002,.var 33 [.sl 10 (w.convs.map Conv.row),.sl 3 (w.door.map.map Pair.row),.sl 8 (w.door.flows.map Flw.row),.sl 7 (w.nets.map Pk.row)]),(1003,.var 40 [.int .i64 p.kind,.int .i64 p.frm.a,.int .i64 p.frm.p,.int .i64 p.to.a,.int .i64 p.to.p,.int .i64 p.at_,.str p.text])]⟩) (fun k => w.convs.length - k)
    (fun k => k ≤ w.convs.length ∧ (w.convs.take k).any (fun c => decide (c.out = p.frm)) = false) 0 (leQ []) ⟨Nat.zero_le _,by simp⟩ ?_
  intro k ⟨hk,ha⟩
  simp only [go_sem]
  by_cases h : (k : Int) < w.convs.length
  · have hil : k < w.convs.length := by omega
    have hg : w.convs.getD k default = w.convs[k] := by simp [List.getD,hil]
    simp only [eq_true h,go_sem]
    with_reducible repeat' (first | refine br ?_ ?_ <;> intro h e <;> (try simp only [e,go_sem,hg,E.ext_iff']) <;> clear e | rw [i64w (by omega)] | (first | refine sk ?_ | refine sd ?_) <;> try simp only [go_sem,hg,E.ext_iff'] | fail)
    · have : w.convs.any (fun c => decide (c.out = p.frm)) = true := List.any_eq_true.2 ⟨_,List.getElem_mem hil,by simpa using (by assumption)⟩
      simp [stranger,this]
    · refine ⟨k + 1,by omega,⟨by omega, ?_⟩,(leQ [])⟩
      rw [List.take_add_one,List.getElem?_eq_getElem hil]
      simp only [Option.toList_some,List.any_append,ha,List.any_cons,List.any_nil,Bool.or_false,Bool.false_or,decide_eq_false_iff_not]
      assumption
  · simp only [eq_false h,go_sem]
    have : k = w.convs.length := by omega
    subst this
    rw [List.take_length] at ha
    have c1 := c42 p ht
    with_reducible repeat' (first | refine br ?_ ?_ <;> intro h e <;> (try simp only [e,go_sem]) <;> clear e | rw [i64w (by omega)] | (first | refine sk ?_ | refine sd ?_) <;> try simp only [go_sem] | (first | refine cr (c1 ..) ?_ | refine cr (c44 ..) ?_ | refine cr (c154 ..) ?_) <;> try simp only [go_sem] | fail)
    all_goals simp_all [stranger,Pk.inward]
theorem say_port (c : Conv) (port n m : Int) : say c true port n m = say c true 0 n m := rfl
def ic86 : IC := sR [oP 2 (.box 33 (.t 0)),oP 3 (.box 46 (.t 1)),oP 4 (.alloc 40 [i0,i0,i0,i0,i0,i0,s0]),oP 5 (.mv (.c (.bool false)))] (.seq (sR [fD 7 1 3,lD 8 1 7,fD 9 0 2,lD 10 1 9,oP 11 (.len (.t 10)),oP 12 (.bin .sub (.t 11) (.c (.int .i64 1))),oP 13 (.call 101 [.t 8,.c i0,.t 12]),oP 14 (.un .not (.t 13))] (.cond (.t 14) (sR [oP 15 (.build [i0,i0,i0,i0,i0,i0,s0] []),nP (.sto 7 (.t 4) (.t 15)),oP 5 (.mv (.c (.bool false)))] .ret) .skip)) (sR [fD 16 0 2,lD 17 1 16,fD 18 1 3,lD 19 1 18,oP 20 (.iad 10 (.t 17) (.t 19)),lA 21 10 20,oP 6 (.alloc 42 [i0,i0,i0,i0,s0,s0,i0,i0,s0,s0]),nP (.sto 10 (.t 6) (.t 21))] (.seq (.drw [0,0,2,6,0,0,32,112,0,256,0,1024,4095,8191,8191,32767,65535] [(0,lA 22 10 6),(1,fD 23 0 3),(2,lD 24 1 23),(3,oP 25 (.bin .eql (.t 24) (.c (.int .i64 1)))),(4,lA 26 4 2),(5,fD 27 0 6),(6,lA 28 2 27),(7,oP 29 (.call 95 [.t 26,.t 28])),(8,fD 30 2 3),(9,lD 31 1 30),(10,fD 32 3 3),(11,lD 33 1 32),(12,oP 34 (.call 94 [.t 22,.t 25,.t 29,.t 31,.t 33])),(13,eX 35 34 0),(14,eX 36 34 1),(15,nP (.sto 7 (.t 4) (.t 35))),(16,mV 5 36)]) .ret)))
theorem dg86 : digF Tryz.prog Tryz.f86 = some (ic86,[(.cell 4 7 true),(.t 5)]) := by kernel_rfl
theorem en86 : entr Tryz.prog 86 = true := by kernel_rfl
theorem c86 (w : M.World) (e : Ev) (hm : w.door.map.length ≤ 2000000) (hc : w.convs.length ≤ 2000000) (ht : ∀ c ∈ w.convs,c.up.length ≤ 2000000 ∧ c.down.length ≤ 2000000) : FnR Tryz.prog G 86 [.agg [.sl 10 (w.convs.map Conv.row),.sl 3 (w.door.map.map Pair.row),.sl 8 (w.door.flows.map Flw.row),.sl 7 (w.nets.map Pk.row)],.agg [.int .i64 e.kind,.int .i64 e.a,.int .i64 e.b,.int .i64 e.c,.int .i64 e.pkt.kind,.int .i64 e.pkt.frm.a,.int .i64 e.pkt.frm.p,.int .i64 e.pkt.to.a,.int .i64 e.pkt.to.p,.int .i64 e.pkt.at_,.str e.pkt.text]]
    (.tup [.agg (Pk.row ((sayW w (decide (e.kind = 1)) e.a e.b e.c).getD .zero)),.bool (sayW w (decide (e.kind = 1)) e.a e.b e.c).isSome]) := by
  refine FnR.mkF Tryz.func86 en86 dg86 Tryz.ntmps86 (by simp) ?_
  simp only [ic86,go_sem]
  generalize hw : within e.a 0 ((w.convs.length : Int) - 1) = b
  have hw2 : b = true → 0 ≤ e.a ∧ e.a ≤ (w.convs.length : Int) - 1 := fun h => M.within_iff.1 (hw.trans h)
  rw [i64w (by omega)]
  refine callR (c101 e.a 0 ((w.convs.length : Int) - 1)) rfl rfl ?_
  rw [hw]
  cases b <;> simp only [go_sem]
  · have : sayW w (decide (e.kind = 1)) e.a e.b e.c = none := by simp [sayW,hw]
    rw [this]
    simp [Pk.zero,E.zero]
  have hw2 := hw2 rfl
  have hil : e.a.toNat < w.convs.length := by omega
  have hg : w.convs.getD e.a.toNat default = w.convs[e.a.toNat] := by simp [List.getD,hil]
  have hcv := ht _ (List.getElem_mem hil)
  have hx : sayW w (decide (e.kind = 1)) e.a e.b e.c = say w.convs[e.a.toNat] (decide (e.kind = 1)) (portOf w.door.map w.convs[e.a.toNat].ins) e.b e.c := by
    simp only [sayW,hw,if_true,List.getElem?_eq_getElem hil]
    cases decide (e.kind = 1)
    · rfl
    · simp only [cond_true]; rw [say_port _ (portOf _ _)]
  rw [hx]
  generalize hcc : w.convs[e.a.toNat] = c at *
  have p1 := c95 w c.ins hm
  have p2 := c94 c (decide (e.kind = 1)) (portOf w.door.map c.ins) e.b e.c hcv.1 hcv.2
  with_reducible repeat' (first | refine br ?_ ?_ <;> intro h e <;> (try simp only [e,go_sem,hg]) <;> clear e | rw [i64w (by omega)] | (first | refine sk ?_ | refine sd ?_) <;> try simp only [go_sem,hg] | (first | refine cr (p1 ..) ?_ | refine cr (p2 ..) ?_) <;> try simp only [go_sem,hg] | fail)
def ic87 : IC := sR [oP 3 (.box 33 (.t 0)),oP 4 (.box 40 (.t 1)),oP 6 (.alloc 33 [.nils,.nils,.nils,.nils])] (.seq (sR [mV 7 2,mV 8 7,⟨some 9,some (8,true),.fad 3 (.t 3)⟩,⟨some 10,some (8,true),.ld 1 false (.t 9)⟩,⟨some 11,some (8,true),.len (.t 10)⟩,⟨some 12,some (8,true),.bin .lss (.t 11) (.c (.int .i64 10))⟩,oP 13 (.pick (.t 8) (.t 12) (.c (.bool false)))] (.cond (.t 13) (.reg [fD 14 3 3,lD 15 1 14,lA 16 7 4,oP 17 (.bsl 40 7 [.t 16]),oP 18 (.app 40 7 (.t 15) (.t 17)),fD 19 3 3,nP (.sto 1 (.t 19) (.t 18))]) .skip)) (sR [lA 20 4 3,nP (.sto 4 (.t 6) (.t 20))] .ret))
theorem dg87 : digF Tryz.prog Tryz.f87 = some (ic87,[(.cell 6 4 true)]) := by kernel_rfl
theorem en87 : entr Tryz.prog 87 = true := by kernel_rfl
theorem c87 (w : M.World) (p : Pk) (ok : Bool) (hn : w.nets.length ≤ 2000000) : FnP Tryz.prog G 87 0 [.arr 42 10 (w.convs.map Conv.row),.arr 98 3 (w.door.map.map Pair.row),.arr 91 8 (w.door.flows.map Flw.row),.arr 40 7 (w.nets.map Pk.row)] [.agg [.own 0 w.convs.length,.own 1 w.door.map.length,.own 2 w.door.flows.length,.own 3 w.nets.length],.agg [.int .i64 p.kind,.int .i64 p.frm.a,.int .i64 p.frm.p,.int .i64 p.to.a,.int .i64 p.to.p,.int .i64 p.at_,.str p.text],.bool ok] (worldA (send w (bif ok then some p else none))) := by
  refine FnP.mk' Tryz.func87 en87 dg87 Tryz.ntmps87 (by simp) ⟨_,_,rfl,rfl⟩ ?_
  simp only [ic87,go_sem]
  have hno : send w none = w := rfl
  have hfull : ¬ w.nets.length < 10 → send w (some p) = w := fun h => by simp only [send]; rw [if_neg h]
  cases ok <;> simp only [go_sem]
  · rw [hno]
    exact worldRet (c := 1006) 0 1 2 3 (by simp only [go_sem]) (by simp only [go_sem]) (by simp only [go_sem]) (by simp only [go_sem]) (by simp only [go_sem]) (by simp only [go_sem]) (by decide)
  with_reducible repeat' (first | refine br ?_ ?_ <;> intro h e <;> (try simp only [e,go_sem]) <;> clear e | rw [i64w (by omega)] | (first | refine sk ?_ | refine sd ?_) <;> try simp only [go_sem] | fail)
  · have hx : send w (some p) = { w with nets := w.nets ++ [p] } := by simp only [send]; rw [if_pos (by omega)]
    rw [hx]
    refine worldRet (c := 1006) 0 1 2 1018 (by simp only [go_sem]) (by simp only [go_sem]; simp) (by simp only [go_sem]) (by simp only [go_sem]) (by simp only [go_sem]) (by simp only [go_sem]; simp [Pk.row]) (by decide)
  · rw [hfull (by omega)]
    exact worldRet (c := 1006) 0 1 2 3 (by simp only [go_sem]) (by simp only [go_sem]) (by simp only [go_sem]) (by simp only [go_sem]) (by simp only [go_sem]) (by simp only [go_sem]) (by decide)
end Go.Proofs.YtblndjmhjaijjaaGreatDoor.W
