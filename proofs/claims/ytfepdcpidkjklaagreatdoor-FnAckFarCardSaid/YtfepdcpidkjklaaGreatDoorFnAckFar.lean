/- FnAckFar: what acknowledges more than was said does not pass. Conditions: those of the row alone. -/
import Derived.Test.YtfepdcpidkjklaaGreatDoorX07
import Derived.Test.YtfepdcpidkjklaaGreatDoorX04
import Derived.Test.YtfepdcpidkjklaaGreatDoorCards
import Derived.Test.YtfepdcpidkjklaaGreatDoorTie
set_option linter.all false
namespace Go.Proofs.YtfepdcpidkjklaaGreatDoor.W
open Go Go.RowKit Go.Proofs Go.Proofs.YtfepdcpidkjklaaGreatDoor.VL Go.Proofs.YtfepdcpidkjklaaGreatDoor.M
attribute [local congr] optK_congr guardK_congr condK_congr runT_congr runD_congr wpI_congr CallV_congr LoopI_congr pureK_congr effK_congr calK_congr stepV_congr doV_congr exN_congr exB_congr retF_congr retQ_congr gK_congr condW_congr ldK_congr stoK_congr
attribute [local go_sem] argL_cons argL_nil argH_nil argH_cons chH_getH wpI_seq wpI_reg wpI_drw wpI_ret cond_k condW_t condW_f wpI_skip wpI_block wpI_exit wpI_loop exN_n exN_r exN_e exB_n exB_r exB_h exB_m runT_k kT_e runT_nil runD_k kD_e runD_nil step_u step_k gK_t gK_f do_mv do_bino bo_add bo_sub bo_mul bo_subu bo_quo bo_rem bo_xor bo_eql bo_neq bo_lss bo_leq bo_gtr bo_geq bo_cat bo_eqs bo_nes do_pick do_call do_cal calK_f do_box do_alloc do_ldk ldK_s do_stok stoK_s do_fad do_nilc do_not do_neg do_len do_lens do_ext do_eqs do_beq do_isn do_cvi do_sls do_idx do_mn do_mx do_build do_mkf do_s2b do_b2s do_slv do_iad do_bsl do_mks do_app ev_t ev_c app_some app_none
attribute [local go_sem] List.nil_append List.cons_append List.append_nil getL_hit getL_miss getH_nil getH_hit getH_miss nm_eq ne_eq Nat.reduceEqDiff not_false_eq_true Nat.reduceAdd Nat.add_zero Nat.zero_add if_true if_false ite_true ite_false pureK_s effK_s optK_s gdV_t gdV_f gdV_s pick_b ge_iff_le gt_iff_lt cond_true cond_false fresh_k cells_agg cells_int cells_bool cells_str cells_own cells_sl cells_nils ld_pv ld_pa ld_ip ldVar_t ldVar_f ldArr_t ldArr_f ldRow_t ldRow_f ldA_s ld1_s fad_pv fad_pa fad_ip nilc_pv nilc_pa nilc_ip not_b neg_i cvi_i ext_t retF_n retF_r
attribute [local go_sem] resV_k rvs_nil rvs_t rvs_c fstO_s consO_s resK_s resL_1 resL_2 resL_3 resL_4  Option.some.injEq List.map_cons List.map_nil List.all_cons List.all_nil Bool.and_true Bool.and_self Bool.not_true Bool.not_false Option.map_some Option.map_none sls_s slsG_s loV_n loV_i hiV_n hiV_i idx_s mn_i mx_i s2b_s b2s_s bytO_s bytes_nil bytes_cons conB_s slv_sl slv_own slv_nils slvG_s slvN_s slvO_s iad_sl iadG_map take_map drop_map List.length_map iad_own iad_view iadO_a iadW_a mks_i rowO_nils rowO_sl rowO_own rowA_a eq_self appG_nils appG_own appO_a guardP_T mapA_s bld_nil mkf_nil bldF_e fill_nil fill_cons mkf_e lens_s len_nils len_sl len_own len_view isn_nile isn_erre List.getElem?_cons_zero List.getElem?_cons_succ List.length_cons List.length_nil decide_true decide_false Int.toNat_natCast Int.cast_ofNat_Int Int.reduceLT Int.reduceLE Int.reduceEq Int.reduceAdd Int.reduceSub Int.reduceMul Int.reduceNeg Int.reduceToNat List.getD_cons_zero List.getD_cons_succ not_true_eq_false not_false_eq_true Bool.false_eq_true Bool.true_eq_false reduceCtorEq
attribute [local go_sem] E.row Pc.row Pair.row Part.row Strm.row Flw.row Pk.row Door.row Conv.row World.row Ev.row rdV E.eta Pc.eta Pair.eta Part.eta Strm.eta Pk.eta Flw.eta Conv.eta Door.eta World.eta Ev.eta
attribute [local go_sem] sub_ok st_pv st_pa stVar_v stArr_a Nat.le_refl List.drop_zero List.drop_succ_cons List.take_succ_cons List.take_zero setR Nat.reduceLeDiff
attribute [local go_sem] wk_bot wk2_bot wk1_bot wk_undef wk_tup_e wk2_agg_e wk_agg_e wk1_fn_e wk2_fn_e wk_fn_e wkl_nil wkl_cons wkh_var_e wkh_arr_e wkh_fresh_e wkh_dead_v wkh_dead_a wkh_dead_d wk0_undef wk0_int wk0_bool wk0_str wk0_nils wk0_nils_sl wk0_nilp wk0_nile wk0_erre wk0_sl wk0_iptr wk0_own wk0_view wk0_pv wk0_pa fzA_a fzW_a fzP_v wk0_own_sl wk0_view_sl wk0_pv_iptr WkS_nil WkS_cons WkN_nil WkN_cons nonB_nil nonB_cons getN_nil getN_hit getN_miss pinOk_0 pinOk_s and_true true_and and_self
attribute [local go_sem] bot_int one_int unt_int clo_int bot_bool one_bool unt_bool clo_bool bot_str one_str unt_str clo_str bot_nils one_nils unt_nils clo_nils bot_nilp one_nilp unt_nilp clo_nilp bot_nile one_nile unt_nile clo_nile bot_erre one_erre unt_erre clo_erre bot_raw one_raw unt_raw clo_raw bot_sl one_sl unt_sl clo_sl bot_own one_own unt_own clo_own bot_view one_view unt_view clo_view bot_pv one_pv unt_pv clo_pv bot_pa one_pa unt_pa clo_pa bot_iptr one_iptr unt_iptr clo_iptr unt_agg unt_fn one_fn
attribute [local go_sem] rn_tup rn_agg rn2_agg rn_fn rn2_fn rnfn1 rn_bot rn2_bot rn1_bot rn0_int rn0_bool rn0_str rn0_nils rn0_nilp rn0_nile rn0_erre rn0_sl rn0_iptr rn0_own rn0_view rn0_pv rn0_pa hrn_var hrn_arr hrn_dead outU_nil outU_cons deads_nil deads_cons bk_ge bk_lt nsF_0 nsF_s chH_0 chH_s chH_n newN_e andB_s eqR_nil eqR_i eqR_b eqR_s mapX_f mapX_t eqs_a beq_f beq_t live_arr live_var nsl_nil nsl_cons Nat.reduceMul Nat.reduceLT Nat.zero_le Nat.not_lt_zero
attribute [local go_sem] mV lD lA fD bN eX oP nP sR i0 s0
def ic13:IC:=sR [oP 4 (.mv (.c (.bool false)))] (.seq (sR [mV 25 0,oP 26 (.len (.t 25)),oP 27 (.bin .gtr (.t 26) (.c (.int .i64 1048576))),mV 28 27,⟨some 29,some (28,false),.mv (.t 1)⟩,⟨some 30,some (28,false),.len (.t 29)⟩,⟨some 31,some (28,false),.bin .gtr (.t 30) (.c (.int .i64 1048576))⟩,oP 32 (.pick (.t 28) (.c (.bool true)) (.t 31))] (.cond (.t 32) (sR [oP 4 (.mv (.c (.bool true)))] .ret) .skip)) (sR [mV 34 0,oP 35 (.call 37 [.t 34]),mV 33 35,eX 36 33 0,eX 37 33 1,oP 5 (.alloc 26 [.nils,.nils]),oP 6 (.alloc 30 [i0,i0,i0,i0,i0,i0,s0]),nP (.sto 2 (.t 5) (.t 36)),nP (.sto 7 (.t 6) (.t 37))] (sR [lA 39 2 5,lA 40 7 6,oP 41 (.call 38 [.t 39,.t 40]),mV 38 41,eX 42 38 0,eX 43 38 1,eX 44 38 2,oP 7 (.alloc 26 [.nils,.nils]),oP 8 (.alloc 30 [i0,i0,i0,i0,i0,i0,s0]),nP (.sto 2 (.t 7) (.t 42)),nP (.sto 7 (.t 8) (.t 43)),mV 9 44] (sR [lA 46 2 5,lA 47 7 6,oP 48 (.call 39 [.t 46,.t 47]),mV 45 48,eX 49 45 0,eX 50 45 1,eX 51 45 2,oP 10 (.alloc 26 [.nils,.nils]),oP 11 (.alloc 30 [i0,i0,i0,i0,i0,i0,s0]),nP (.sto 2 (.t 10) (.t 49)),nP (.sto 7 (.t 11) (.t 50)),mV 12 51] (.seq (sR [mV 52 12,mV 53 9,oP 54 (.beq true (.t 52) (.t 53)),mV 55 54,⟨some 56,some (55,false),.ld 7 true (.t 11)⟩,⟨some 57,some (55,false),.ld 7 true (.t 8)⟩,⟨some 58,some (55,false),.eqs true [.i,.i,.i,.i,.i,.i,.s] (.t 56) (.t 57)⟩,oP 59 (.pick (.t 55) (.c (.bool true)) (.t 58)),mV 60 59,⟨some 61,some (60,false),.ld 2 true (.t 10)⟩,⟨some 62,some (60,false),.ld 2 true (.t 7)⟩,⟨some 63,some (60,false),.call 19 [.t 61,.t 62]⟩,⟨some 64,some (60,false),.un .not (.t 63)⟩,oP 65 (.pick (.t 60) (.c (.bool true)) (.t 64)),mV 66 65,⟨some 67,some (66,false),.ld 2 true (.t 5)⟩,⟨some 68,some (66,false),.call 24 [.t 67]⟩,⟨some 69,some (66,false),.un .not (.t 68)⟩,oP 70 (.pick (.t 66) (.c (.bool true)) (.t 69)),mV 71 70,⟨some 72,some (71,false),.fad 1 (.t 5)⟩,⟨some 73,some (71,false),.ld 1 false (.t 72)⟩,⟨some 74,some (71,false),.len (.t 73)⟩,⟨some 75,some (71,false),.bin .eql (.t 74) (.c i0)⟩,oP 76 (.pick (.t 71) (.c (.bool true)) (.t 75))] (.cond (.t 76) (sR [mV 77 12,mV 78 9,oP 79 (.beq false (.t 77) (.t 78)),mV 80 79,⟨some 81,some (80,true),.ld 7 true (.t 11)⟩,⟨some 82,some (80,true),.ld 7 true (.t 8)⟩,⟨some 83,some (80,true),.eqs false [.i,.i,.i,.i,.i,.i,.s] (.t 81) (.t 82)⟩,oP 84 (.pick (.t 80) (.t 83) (.c (.bool false))),mV 85 84,⟨some 86,some (85,true),.ld 2 true (.t 10)⟩,⟨some 87,some (85,true),.ld 2 true (.t 7)⟩,⟨some 88,some (85,true),.call 19 [.t 86,.t 87]⟩,oP 89 (.pick (.t 85) (.t 88) (.c (.bool false))),mV 4 89] .ret) .skip)) (.seq (.drw [0,1,0,4,0,16,48,124,255,511,0,2047] [(0,fD 90 1 5),(1,lD 91 1 90),(2,mV 92 1),(3,oP 93 (.len (.t 92))),(4,fD 94 1 5),(5,lD 95 1 94),(6,oP 96 (.len (.t 95))),(7,bN 97 .rem 93 96),(8,oP 98 (.iad 8 (.t 91) (.t 97))),(9,lA 99 8 98),(10,oP 13 (.alloc 46 [i0,i0,i0,i0,s0,.nils,s0,.nils])),(11,nP (.sto 8 (.t 13) (.t 99)))]) (sR [fD 101 0 5,lD 102 1 101,fD 103 0 13,lA 104 2 103,oP 105 (.call 44 [.t 102,.t 104]),mV 100 105,eX 106 100 0,eX 107 100 1,eX 108 100 2,mV 14 106,mV 15 107,mV 16 108] (.seq (.drw [0,1,0,4,0,16,48,112,240,511,0,2047] [(0,fD 109 2 13),(1,lA 110 2 109),(2,mV 111 15),(3,oP 112 (.build [i0,i0] [(0,(1,.c (.int .i64 9))),(1,(1,.t 111))])),(4,fD 113 4 13),(5,lA 114 2 113),(6,oP 115 (.call 32 [.t 114])),(7,oP 116 (.lens (.t 115))),(8,oP 117 (.bin .add (.t 116) (.c (.int .i64 1)))),(9,oP 118 (.build [i0,i0,i0,i0,i0,i0,s0] [(0,(1,.c (.int .i64 2))),(1,(2,.t 110)),(3,(2,.t 112)),(5,(1,.t 117))])),(10,oP 17 (.alloc 30 [i0,i0,i0,i0,i0,i0,s0])),(11,nP (.sto 7 (.t 17) (.t 118)))]) (.seq (.drw [0,1,0,4,0,16,48,112,240,511,0,2047] [(0,fD 119 0 13),(1,lA 120 2 119),(2,fD 121 2 13),(3,lA 122 2 121),(4,fD 123 6 13),(5,lA 124 2 123),(6,oP 125 (.call 32 [.t 124])),(7,oP 126 (.lens (.t 125))),(8,oP 127 (.bin .add (.t 126) (.c (.int .i64 1)))),(9,oP 128 (.build [i0,i0,i0,i0,i0,i0,s0] [(0,(1,.c (.int .i64 2))),(1,(2,.t 120)),(3,(2,.t 122)),(5,(1,.t 127))])),(10,oP 18 (.alloc 30 [i0,i0,i0,i0,i0,i0,s0])),(11,nP (.sto 7 (.t 18) (.t 128)))]) (sR [lA 130 2 5,lA 131 7 17,oP 132 (.call 39 [.t 130,.t 131]),mV 129 132,eX 133 129 0,eX 134 129 1,eX 135 129 2,oP 19 (.alloc 26 [.nils,.nils]),oP 20 (.alloc 30 [i0,i0,i0,i0,i0,i0,s0]),nP (.sto 2 (.t 19) (.t 133)),nP (.sto 7 (.t 20) (.t 134)),mV 21 135] (sR [lA 137 2 5,lA 138 7 18,oP 139 (.call 39 [.t 137,.t 138]),mV 136 139,eX 140 136 0,eX 141 136 1,eX 142 136 2,oP 22 (.alloc 26 [.nils,.nils]),oP 23 (.alloc 30 [i0,i0,i0,i0,i0,i0,s0]),nP (.sto 2 (.t 22) (.t 140)),nP (.sto 7 (.t 23) (.t 141)),mV 24 142] (sR [mV 143 21,oP 144 (.un .not (.t 143)),mV 145 144,⟨some 146,some (145,true),.mv (.t 24)⟩,⟨some 147,some (145,true),.un .not (.t 146)⟩,oP 148 (.pick (.t 145) (.t 147) (.c (.bool false))),mV 149 148,⟨some 150,some (149,true),.ld 2 true (.t 19)⟩,⟨some 151,some (149,true),.ld 2 true (.t 5)⟩,⟨some 152,some (149,true),.call 19 [.t 150,.t 151]⟩,oP 153 (.pick (.t 149) (.t 152) (.c (.bool false))),mV 154 153,⟨some 155,some (154,true),.ld 2 true (.t 22)⟩,⟨some 156,some (154,true),.ld 2 true (.t 5)⟩,⟨some 157,some (154,true),.call 19 [.t 155,.t 156]⟩,oP 158 (.pick (.t 154) (.t 157) (.c (.bool false))),mV 4 158] .ret))))))))))))
theorem dg13:Dg Tryz.prog 13 Tryz.f13 ic13 [(.t 4)]:=⟨Tryz.func13,by kernel_rfl,by kernel_rfl⟩
theorem c13 (code more:B):FnR Tryz.prog G 13 [.sl 1 (code.map byR),.sl 1 (more.map byR)] (.bool true):=by
  refine mF dg13 Tryz.ntmps13 ?_
  simp only [ic13,go_sem]
  by_cases hc:(1048576:Int)<code.length
  · simp only [eq_true hc,go_sem]
  simp only [eq_false hc,go_sem]
  by_cases hm:(1048576:Int)<more.length
  · simp only [eq_true hm,go_sem]
  simp only [eq_false hm,go_sem]
  refine callO (c37 code (by omega)) [] 35 0 (by simp only [go_sem];first|done|simp) (by simp) (by rintro _ _ ⟨_,_,_,_,_,rfl⟩;simp) (by intro i hi;omega) ?_
  rintro _ _ ⟨d,p,⟨hb,hl3,hq⟩,hpl,rfl,rfl⟩
  simp only [go_sem]
  have f1:=c38 d p hb (fun _=>hl3) (by omega)
  have f2:=c39 d p hb (by omega)
  have xb:=doorPass_db d p
  have hyes:=fun r (h:(doorPass d p).2=some r)=>doorPass_yes h
  obtain ⟨⟨x,o⟩,hx⟩:∃ y,doorPass d p=y:=⟨_,rfl⟩
  rw [hx] at f1 f2 xb hyes
  have f3:=l19 x xb
  simp only at f1 f2 f3 hyes xb
  have f4:=c24 d hb
  have all:∀ b:Bool,(b == b)=true:=by decide
  generalize hbs:o.isSome=b at *
  generalize hrs:o.getD .zero=r at *
  cases hd:doorOk d
  · rw [hd] at f4
    with_reducible repeat' (first|refine br ?_ ?_<;>intro h e<;>(try simp only [e,go_sem,all])<;>clear e|rw [i64w (by omega)]|refine sd ?_<;>try simp only [go_sem,all]|(first|refine cr (f1 ..) ?_|refine cr (f2 ..) ?_|refine cr (f3 ..) ?_|refine cr (f4 ..) ?_)<;>try simp only [go_sem,all]|fail)
  rw [hd] at f4
  by_cases h0:d.flows.length=0
  · have h00:((d.flows.length:Nat):Int)=0:=by omega
    with_reducible repeat' (first|refine br ?_ ?_<;>intro h e<;>(try simp only [e,go_sem,all,h00])<;>clear e|rw [i64w (by omega)]|refine sd ?_<;>try simp only [go_sem,all,h00]|(first|refine cr (f1 ..) ?_|refine cr (f2 ..) ?_|refine cr (f3 ..) ?_|refine cr (f4 ..) ?_)<;>try simp only [go_sem,all,h00]|fail)
  have h00:¬ ((d.flows.length:Nat):Int)=0:=by omega
  have hlt:=Nat.mod_lt more.length (Nat.pos_of_ne_zero h0)
  have w1:=tmod_n more.length d.flows.length
  generalize more.length % d.flows.length=i at *
  have hg:d.flows.getD i default=d.flows[i]:=by simp [List.getD,hlt]
  obtain ⟨e1,e2,e3⟩:=law_ackFar hd hq (List.getElem?_eq_getElem hlt)
  obtain ⟨_,_,s1,s2,_⟩:=flow_at hd (List.getElem?_eq_getElem hlt)
  generalize d.flows[i]=f at *
  have he:f.ins.inside=true:=by
    cases h:f.ins.inside
    · rw [mapOut,h,Bool.and_false] at e1
      have:=congrArg (fun x=>x.2.2) e1
      simp at this
    · rfl
  have g1:=c44 d.map f.ins (doorOk_iff.1 hd).1 he
  rw [e1] at g1
  have l1:=sOut_len (strmOk_B s1)
  have l2:=sOut_len (strmOk_B s2)
  have w2:IntKind.i64.wrap (((sOut f.up).length:Int)+1)=(sOut f.up).length+1:=i64w (by omega)
  have w3:IntKind.i64.wrap (((sOut f.down).length:Int)+1)=(sOut f.down).length+1:=i64w (by omega)
  have g2:=c32 f.up s1
  have g3:=c32 f.down s2
  have g4:=c39 d ⟨2,f.out,⟨9,portOf d.map f.ins⟩,(sOut f.up).length+1,[]⟩ hb (by simp)
  have g5:=c39 d ⟨2,f.ins,f.out,(sOut f.down).length+1,[]⟩ hb (by simp)
  rw [e2] at g4
  rw [e3] at g5
  have g6:=l19 d hb
  simp only [Option.getD_none,Option.isSome_none] at g4 g5
  with_reducible repeat' (first|refine br ?_ ?_<;>intro h e<;>(try simp only [e,go_sem,all,h00,w1,w2,w3,hg,getD_mp hlt])<;>clear e|rw [i64w (by omega)]|refine sd ?_<;>try simp only [go_sem,all,h00,w1,w2,w3,hg,getD_mp hlt]|(first|refine cr (f1 ..) ?_|refine cr (f2 ..) ?_|refine cr (f3 ..) ?_|refine cr (f4 ..) ?_|refine cr (g1 ..) ?_|refine cr (g2 ..) ?_|refine cr (g3 ..) ?_|refine cr (g4 ..) ?_|refine cr (g5 ..) ?_|refine cr (g6 ..) ?_)<;>try simp only [go_sem,all,h00,w1,w2,w3,hg,getD_mp hlt]|fail)
  all_goals first|done|omega|trace_state
end Go.Proofs.YtfepdcpidkjklaaGreatDoor.W
namespace Go.Proofs.YtfepdcpidkjklaaGreatDoor.fnAckFar
open Go Go.ChangeShapes Go.WideShapes Go.ChangeAt Go.RowKit Go.Proofs.YtfepdcpidkjklaaGreatDoor.W
theorem walk (v0 v1:Value) (W:World) (hs:W.ShapedOpen Tryz.prog) (hL:laidMetH Tryz.prog Rows.fnAckFarRow.laid W) (hv0:∃ code:M.B,VL.Den W noO noρ noH (.sl 1 (code.map M.byR)) v0) (hv1:∃ code:M.B,VL.Den W noO noρ noH (.sl 1 (code.map M.byR)) v1) :
    Calls Tryz.prog 13 #[v0,v1] W fun e W'=>e=.returned (.bool true)∧Below W.heap.size W W':=by
  obtain ⟨code,hdv0⟩:=hv0
  obtain ⟨more,hdv1⟩:=hv1
  have:=Go.Proofs.YtfepdcpidkjklaaGreatDoor.W.FnR.calls (c13 code more) (us:=[v0,v1]) (gOk rfl hL hs) ⟨rfl,fun j a b ha hb=>by
    match j,ha,hb with
    | 0,ha,hb=>cases ha;cases hb;exact hdv0
    | 1,ha,hb=>cases ha;cases hb;exact hdv1
    | j+2,ha,hb=>simp at ha⟩
  exact this
set_option maxRecDepth 100000 in
theorem contract (H:Type) (enc:TypeId × Value→H) (W:World) (base:Nat) (args:Array Value) (ds gs:List (DataW H)) (before:List MemPlace)
    (hval:∀ (j:Nat) t v,Tryz.f13.params[j]?=some t→args[j]?=some v→Value.okWide Tryz.prog W .any base t v)
    (hW:DataW.Whole enc Tryz.prog Tryz.f13.params.toList Rows.fnAckFarSpec.vars false W args.toList ds gs before) (hL:laidMetH Tryz.prog Rows.fnAckFarRow.laid W) (hs:W.ShapedOpen Tryz.prog) :
    Calls Tryz.prog 13 args W fun e W'=>∃ v,e=.returned v∧Rows.fnAckFarSpec.post enc Tryz.prog Tryz.f13 false true false false W args v W':=by
  have hW':=hW
  obtain ⟨p,q,hA0,hV,rfl,hfz,hnd⟩:=hW
  have hA:DataW.TrodAll enc Tryz.prog W 0 (fun _=>true) true Tryz.f13.params.toList args.toList ds p:=hA0
  rw [Tryz.params13] at hA hval
  obtain ⟨v0,r0s,d0,d0s,p0,q0,hargs0,rfl,rfl,h0,r0⟩:=trodAll_cons hA
  obtain ⟨v1,r1s,d1,d1s,p1,q1,hargs1,rfl,rfl,h1,r1⟩:=trodAll_cons r0
  obtain ⟨e1,e2,e3⟩:=trodAll_nil r1
  subst e1 e2 e3
  obtain rfl:args=#[v0,v1]:=by cases args;simp_all
  obtain ⟨rfl,rfl⟩:=trodVars_none hV
  obtain ⟨a0,len0,cap0,hv0⟩:=okWide_slice Tryz.underlying22 (hval 0 22 v0 rfl rfl)
  have k0:=h0
  have lt0:∀ x∈p0,x.block<W.heap.size:=by obtain ⟨m,hm⟩:=k0;exact DataW.trod_lt m _ _ _ hm
  have hc0:=open_code h0 ⟨a0,len0,cap0,hv0⟩
  obtain ⟨a1,len1,cap1,hv1⟩:=okWide_slice Tryz.underlying22 (hval 1 22 v1 rfl rfl)
  have k1:=h1
  have lt1:∀ x∈p1,x.block<W.heap.size:=by obtain ⟨m,hm⟩:=k1;exact DataW.trod_lt m _ _ _ hm
  have hc1:=open_code h1 ⟨a1,len1,cap1,hv1⟩
  clear hA0
  refine (walk v0 v1 W hs hL hc0 hc1).mono fun e W' ⟨he,bel⟩=>?_
  subst he
  exact ⟨_,rfl,_,_,_,[],_,[],hW',trodAll_mk1 (shut_bool Tryz.underlying4 _),(trodAll_cons_mk (Below.trod laidOut (by kernel_rfl) (of_decide_eq_true (by kernel_rfl)) k0 bel lt0) (trodAll_cons_mk (Below.trod laidOut (by kernel_rfl) (of_decide_eq_true (by kernel_rfl)) k1 bel lt1) trodAll_mk0)),rfl,bel.frame _,fun h=>by cases h⟩
theorem inP:(Rows.fnAckFarRow.inPlace == Tryz.prog.inPlace 13)=true:=by kernel_rfl
theorem unf:(Rows.fnAckFarRow.unfollowed == Tryz.prog.unfollowed 13)=true:=by kernel_rfl
theorem rcs:(Rows.fnAckFarRow.recurses == Tryz.prog.recurses 13)=true:=by kernel_rfl
theorem nam:(Rows.fnAckFarRow.named == Tryz.prog.varsNamed 13)=true:=by kernel_rfl
theorem lif:(Rows.fnAckFarRow.lifted == Tryz.prog.liftsFinal)=true:=lifF
theorem pke:(Rows.fnAckFarRow.plainKeys == Tryz.prog.plainKeys)=true:=pkeF
theorem mak:(Tryz.prog.make == some Rows.fnAckFarRow.make)=true:=makF
theorem closed0:joinedFacts Tryz.prog 13 Tryz.f13 Rows.fnAckFarSpec Rows.fnAckFarRow=true:=by
  unfold joinedFacts
  rw [laidOut,mapF,inP,unf,rcs,nam,pke,stoF,mayF,lif,mak]
  kernel_rfl
theorem closed:joinedFacts Tryz.pinned.checked.prog 13 Tryz.f13 (OpenSpec.ofChange Rows.fnAckFarSpec).bare Rows.fnAckFarRow=true :=
  (show joinedFacts Tryz.pinned.checked.prog 13 Tryz.f13 (OpenSpec.ofChange Rows.fnAckFarSpec).bare Rows.fnAckFarRow=joinedFacts Tryz.prog 13 Tryz.f13 Rows.fnAckFarSpec Rows.fnAckFarRow by kernel_rfl).trans closed0
theorem door_met (os:Os) (args:Array Value):laidMetH Tryz.prog Rows.fnAckFarRow.laid ((World.doorLaid Tryz.prog 400 os).forCall (fun _ _=>0) ⟨#[],args,[]⟩).memory :=
  laidMetH_of_parts3 (fuel:=8) (laidMet_of_run' 8 (by kernel_rfl) (by kernel_rfl)) (by kernel_rfl) (by kernel_rfl)
theorem reads (os:Os) {H:Type} (enc:TypeId × Value→H):∃ places,DataW.whole enc Tryz.prog ((World.doorLaid Tryz.prog 400 os).forCall (fun _ _=>0) ⟨#[],#[.slice none 0 0,.slice none 0 0],[]⟩).memory Tryz.f13.params.toList Rows.fnAckFarSpec.vars false #[Value.slice none 0 0,Value.slice none 0 0].toList 8=some ([.nil,.nil],[],places) :=
  ⟨[],by kernel_rfl⟩
set_option maxRecDepth 100000 in
theorem lifted (os:Os) (started:os.Started) (H:Type) (enc:TypeId × Value→H) (F:Stop.Interp) :
    ReturnsInHanded {} Tryz.checked os 13 .any ((OpenSpec.ofChange Rows.fnAckFarSpec).preRow enc Tryz.prog Tryz.f13 Rows.fnAckFarRow.domain false Rows.fnAckFarRow.laid) (((OpenSpec.ofChange Rows.fnAckFarSpec).at F).post enc Tryz.prog Tryz.f13 false true false false):=by
  obtain ⟨places,hx⟩:=reads os enc
  refine returnsInHanded_of_row (C:=Tryz.checked) (s:=OpenSpec.ofChange Rows.fnAckFarSpec) own started (by kernel_rfl) Tryz.func13
    (witness_row_atRef (enc:=enc) (C:=Tryz.checked) false (World.doorLaid Tryz.prog 400 os) #[.slice none 0 0,.slice none 0 0] rfl (by kernel_rfl) (by kernel_rfl) (by kernel_rfl)
      (OpenSpec.preRow_of_cond 8 hx (by kernel_rfl) (fun k hk=>by cases hk) (by kernel_rfl) (door_met os _))) ?_
  intro W base args ds gs before hval hW _ _ _ hL hs _
  exact contract H enc W base args ds gs before hval hW hL hs
theorem said:Rows.FnAckFarSaid :=
  OpenClaim.holds_of_cond 13 Tryz.f13 rfl rfl rfl rfl rfl rfl rfl ⟨rfl,rfl,rfl,rfl,rfl⟩ rfl rfl rfl rfl rfl (by kernel_rfl) Tryz.func13 closed
    (of_decide_eq_true (by kernel_rfl)) (by unfold Func.isWrapper;first|(rw [if_pos (by decide +kernel)];kernel_rfl)|(rw [if_neg (by decide +kernel)];exact ⟨rfl,rfl⟩))
    (fun os started H enc _ F=>by rw [OpenClaim.pre_eq_preRow];exact lifted os started H enc F)
theorem plain (f:FuncId) (fn:Func) (hf:Tryz.pinned.checked.prog.funcNamed "loop.example/ostiary/laws.FnAckFar"=some f) (hfn:Tryz.pinned.checked.prog.funcs[f]?=some fn) :
    true=Tryz.pinned.checked.prog.looks []∧∀ (j:Nat) t,fn.params[j]?=some t→Tryz.pinned.checked.prog.wantsStandIn t=false:=by
  obtain rfl:f=13:=Option.some.inj ((show Tryz.prog.funcNamed "loop.example/ostiary/laws.FnAckFar"=some 13 by kernel_rfl).symm.trans hf) |>.symm
  obtain rfl:fn=Tryz.f13:=(Option.some.inj (Tryz.func13.symm.trans hfn)).symm
  refine ⟨by kernel_rfl,fun j t ht=>?_⟩
  rw [Tryz.params13] at ht
  obtain rfl:t=22:=by simpa using Array.mem_of_getElem? ht
  exact (show Tryz.prog.wantsStandIn 22=false by kernel_rfl)
theorem card:Rows.FnAckFarCardSaid :=
  Claim7.holds_tied_plain_at .later [] _ _ _ _ said (fun _ h=>by cases h) (by kernel_rfl) (fun _ h=>by cases h) fnAckFar_row_tie rfl ⟨rfl,rfl⟩ (by kernel_rfl) rfl plain (by kernel_rfl)
end Go.Proofs.YtfepdcpidkjklaaGreatDoor.fnAckFar
