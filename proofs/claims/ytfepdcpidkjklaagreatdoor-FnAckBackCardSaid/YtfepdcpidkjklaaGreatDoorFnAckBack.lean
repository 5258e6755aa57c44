/- FnAckBack: what is acknowledged is told in the sender's own bytes. Conditions: those of the row alone. -/
import Derived.Test.YtfepdcpidkjklaaGreatDoorX07
import Derived.Test.YtfepdcpidkjklaaGreatDoorX04
import Derived.Test.YtfepdcpidkjklaaGreatDoorCards
import Derived.Test.YtfepdcpidkjklaaGreatDoorTie
set_option linter.all false
namespace Go.Proofs.YtfepdcpidkjklaaGreatDoor.W
open Go Go.RowKit Go.Proofs Go.Proofs.YtfepdcpidkjklaaGreatDoor.VL Go.Proofs.YtfepdcpidkjklaaGreatDoor.M
attribute [local congr] optK_congr guardK_congr condK_congr runT_congr runD_congr wpI_congr CallV_congr LoopI_congr pureK_congr effK_congr calK_congr stepV_congr doV_congr exN_congr exB_congr retF_congr retQ_congr gK_congr condW_congr ldK_congr stoK_congr
attribute [local go_sem] argL_cons argL_nil argH_nil argH_cons chH_getH wpI_seq wpI_reg wpI_drw wpI_ret cond_k condW_t condW_f wpI_skip wpI_block wpI_exit wpI_loop exN_n exN_r exN_e exB_n exB_r exB_h exB_m runT_k kT_e runT_nil runD_k kD_e runD_nil step_u step_k gK_t gK_f do_mv do_bino bo_add bo_sub bo_mul bo_subu bo_quo bo_rem bo_xor bo_eql bo_neq bo_lss bo_leq bo_gtr bo_geq bo_cat bo_eqs bo_nes do_pick do_call do_cal calK_f do_box do_alloc do_ldk ldK_s do_stok stoK_s do_fad do_nilc do_not do_neg do_len do_lens do_ext do_eqs do_beq do_isn do_cvi do_sls do_idx do_mn do_mx do_build do_mkf do_s2b do_b2s do_slv do_iad do_bsl do_mks do_app ev_t ev_c app_some app_none
attribute [local go_sem] List.nil_append List.cons_append List.append_nil getL_hit getL_miss getH_nil getH_hit getH_miss nm_eq ne_eq Nat.reduceEqDiff not_false_eq_true Nat.reduceAdd Nat.add_zero Nat.zero_add if_true if_false ite_true ite_false pureK_s effK_s optK_s gdV_t gdV_f gdV_s pick_b ge_iff_le gt_iff_lt cond_true cond_false fresh_k cells_agg cells_int cells_bool cells_str cells_own cells_sl cells_nils ld_pv ld_pa ld_ip ldVar_t ldVar_f ldArr_t ldArr_f ldRow_t ldRow_f ldA_s ld1_s fad_pv fad_pa fad_ip nilc_pv nilc_pa nilc_ip not_b neg_i cvi_i ext_t retF_n retF_r
attribute [local go_sem] resV_k rvs_nil rvs_t rvs_c fstO_s consO_s resK_s resL_1 resL_2 resL_3 resL_4  Option.some.injEq List.map_cons List.map_nil List.all_cons List.all_nil Bool.and_true Bool.and_self Bool.not_true Bool.not_false Option.map_some Option.map_none sls_s slsG_s loV_n loV_i hiV_n hiV_i idx_s mn_i mx_i s2b_s b2s_s bytO_s bytes_nil bytes_cons conB_s slv_sl slv_own slv_nils slvG_s slvN_s slvO_s iad_sl iadG_map take_map drop_map List.length_map iad_own iad_view iadO_a iadW_a mks_i rowO_nils rowO_sl rowO_own rowA_a eq_self appG_nils appG_own appO_a guardP_T mapA_s bld_nil mkf_nil bldF_e fill_nil fill_cons mkf_e lens_s len_nils len_sl len_own len_view isn_nile isn_erre List.getElem?_cons_zero List.getElem?_cons_succ List.length_cons List.length_nil decide_true decide_false Int.toNat_natCast Int.cast_ofNat_Int Int.reduceLT Int.reduceLE Int.reduceEq Int.reduceAdd Int.reduceSub Int.reduceMul Int.reduceNeg Int.reduceToNat List.getD_cons_zero List.getD_cons_succ not_true_eq_false not_false_eq_true Bool.false_eq_true Bool.true_eq_false reduceCtorEq
attribute [local go_sem] E.row Pc.row Pair.row Part.row Strm.row Flw.row Pk.row Door.row Conv.row World.row Ev.row rdV E.eta Pc.eta Pair.eta Part.eta Strm.eta Pk.eta Flw.eta Conv.eta Door.eta World.eta Ev.eta
attribute [local go_sem] sub_ok st_pv st_pa stVar_v stArr_a Nat.le_refl List.drop_zero List.drop_succ_cons List.take_succ_cons List.take_zero setR Nat.reduceLeDiff
attribute [local go_sem] wk_bot wk2_bot wk1_bot wk_undef wk_tup_e wk2_agg_e wk_agg_e wk1_fn_e wk2_fn_e wk_fn_e wkl_nil wkl_cons wkh_var_e wkh_arr_e wkh_fresh_e wkh_dead_v wkh_dead_a wkh_dead_d wk0_undef wk0_int wk0_bool wk0_str wk0_nils wk0_nils_sl wk0_nilp wk0_nile wk0_erre wk0_sl wk0_iptr wk0_own wk0_view wk0_pv wk0_pa fzA_a fzW_a fzP_v wk0_own_sl wk0_view_sl wk0_pv_iptr WkS_nil WkS_cons WkN_nil WkN_cons nonB_nil nonB_cons getN_nil getN_hit getN_miss pinOk_0 pinOk_s and_true true_and and_self
attribute [local go_sem] bot_int one_int unt_int clo_int bot_bool one_bool unt_bool clo_bool bot_str one_str unt_str clo_str bot_nils one_nils unt_nils clo_nils bot_nilp one_nilp unt_nilp clo_nilp bot_nile one_nile unt_nile clo_nile bot_erre one_erre unt_erre clo_erre bot_raw one_raw unt_raw clo_raw bot_sl one_sl unt_sl clo_sl bot_own one_own unt_own clo_own bot_view one_view unt_view clo_view bot_pv one_pv unt_pv clo_pv bot_pa one_pa unt_pa clo_pa bot_iptr one_iptr unt_iptr clo_iptr unt_agg unt_fn one_fn
attribute [local go_sem] rn_tup rn_agg rn2_agg rn_fn rn2_fn rnfn1 rn_bot rn2_bot rn1_bot rn0_int rn0_bool rn0_str rn0_nils rn0_nilp rn0_nile rn0_erre rn0_sl rn0_iptr rn0_own rn0_view rn0_pv rn0_pa hrn_var hrn_arr hrn_dead outU_nil outU_cons deads_nil deads_cons bk_ge bk_lt nsF_0 nsF_s chH_0 chH_s chH_n newN_e andB_s eqR_nil eqR_i eqR_b eqR_s mapX_f mapX_t eqs_a beq_f beq_t live_arr live_var nsl_nil nsl_cons Nat.reduceMul Nat.reduceLT Nat.zero_le Nat.not_lt_zero
attribute [local go_sem] mV lD lA fD bN eX oP nP sR i0 s0
def ic15:IC:=sR [oP 2 (.mv (.c (.bool false)))] (.seq (sR [mV 14 0,oP 15 (.len (.t 14)),oP 16 (.bin .gtr (.t 15) (.c (.int .i64 1048576)))] (.cond (.t 16) (sR [oP 2 (.mv (.c (.bool true)))] .ret) .skip)) (sR [mV 18 0,oP 19 (.call 37 [.t 18]),mV 17 19,eX 20 17 0,eX 21 17 1,oP 3 (.alloc 26 [.nils,.nils]),oP 4 (.alloc 30 [i0,i0,i0,i0,i0,i0,s0]),nP (.sto 2 (.t 3) (.t 20)),nP (.sto 7 (.t 4) (.t 21))] (sR [lA 23 2 3,lA 24 7 4,oP 25 (.call 38 [.t 23,.t 24]),mV 22 25,eX 26 22 0,eX 27 22 1,eX 28 22 2,oP 5 (.alloc 26 [.nils,.nils]),oP 6 (.alloc 30 [i0,i0,i0,i0,i0,i0,s0]),nP (.sto 2 (.t 5) (.t 26)),nP (.sto 7 (.t 6) (.t 27)),mV 7 28] (sR [lA 30 2 3,lA 31 7 4,oP 32 (.call 39 [.t 30,.t 31]),mV 29 32,eX 33 29 0,eX 34 29 1,eX 35 29 2,oP 8 (.alloc 26 [.nils,.nils]),oP 9 (.alloc 30 [i0,i0,i0,i0,i0,i0,s0]),nP (.sto 2 (.t 8) (.t 33)),nP (.sto 7 (.t 9) (.t 34)),mV 10 35] (.seq (sR [mV 36 10,mV 37 7,oP 38 (.beq true (.t 36) (.t 37)),mV 39 38,⟨some 40,some (39,false),.ld 7 true (.t 9)⟩,⟨some 41,some (39,false),.ld 7 true (.t 6)⟩,⟨some 42,some (39,false),.eqs true [.i,.i,.i,.i,.i,.i,.s] (.t 40) (.t 41)⟩,oP 43 (.pick (.t 39) (.c (.bool true)) (.t 42)),mV 44 43,⟨some 45,some (44,false),.ld 2 true (.t 8)⟩,⟨some 46,some (44,false),.ld 2 true (.t 5)⟩,⟨some 47,some (44,false),.call 19 [.t 45,.t 46]⟩,⟨some 48,some (44,false),.un .not (.t 47)⟩,oP 49 (.pick (.t 44) (.c (.bool true)) (.t 48)),mV 50 49,⟨some 51,some (50,false),.mv (.t 10)⟩,⟨some 52,some (50,false),.un .not (.t 51)⟩,oP 53 (.pick (.t 50) (.c (.bool true)) (.t 52)),mV 54 53,⟨some 55,some (54,false),.fad 0 (.t 4)⟩,⟨some 56,some (54,false),.ld 1 false (.t 55)⟩,⟨some 57,some (54,false),.bin .neq (.t 56) (.c (.int .i64 2))⟩,oP 58 (.pick (.t 54) (.c (.bool true)) (.t 57))] (.cond (.t 58) (sR [mV 59 10,mV 60 7,oP 61 (.beq false (.t 59) (.t 60)),mV 62 61,⟨some 63,some (62,true),.ld 7 true (.t 9)⟩,⟨some 64,some (62,true),.ld 7 true (.t 6)⟩,⟨some 65,some (62,true),.eqs false [.i,.i,.i,.i,.i,.i,.s] (.t 63) (.t 64)⟩,oP 66 (.pick (.t 62) (.t 65) (.c (.bool false))),mV 67 66,⟨some 68,some (67,true),.ld 2 true (.t 8)⟩,⟨some 69,some (67,true),.ld 2 true (.t 5)⟩,⟨some 70,some (67,true),.call 19 [.t 68,.t 69]⟩,oP 71 (.pick (.t 67) (.t 70) (.c (.bool false))),mV 2 71] .ret) .skip)) (sR [lA 73 2 8,fD 74 1 4,lA 75 2 74,fD 76 3 4,lA 77 2 76,oP 78 (.call 29 [.t 73,.t 75,.t 77]),mV 72 78,eX 79 72 0,eX 80 72 1,oP 11 (.alloc 46 [i0,i0,i0,i0,s0,.nils,s0,.nils]),nP (.sto 8 (.t 11) (.t 79)),mV 12 80] (sR [fD 81 6 11,lA 82 2 81,oP 13 (.alloc 44 [s0,.nils]),nP (.sto 2 (.t 13) (.t 82))] (.seq (sR [fD 83 1 4,lA 84 2 83,oP 85 (.call 41 [.t 84]),oP 86 (.un .not (.t 85))] (.cond (.t 86) (sR [lA 88 2 8,fD 89 3 9,lA 90 2 89,fD 91 1 4,lA 92 2 91,oP 93 (.call 29 [.t 88,.t 90,.t 92]),mV 87 93,eX 94 87 0,eX 95 87 1,nP (.sto 8 (.t 11) (.t 94)),mV 12 95] (.reg [fD 96 4 11,lA 97 2 96,nP (.sto 2 (.t 13) (.t 97))])) .skip)) (.seq (.drw [0,1,3,7,3,3,35,115,255,511,1023,2047,2047,6143,16383,2047,34815,131071,262143,524287] [(0,mV 98 12),(1,mV 99 98),(2,⟨some 100,some (99,true),.fad 5 (.t 9)⟩),(3,⟨some 101,some (99,true),.ld 1 false (.t 100)⟩),(4,⟨some 102,some (99,true),.ld 2 true (.t 13)⟩),(5,⟨some 103,some (99,true),.fad 5 (.t 4)⟩),(6,⟨some 104,some (99,true),.ld 1 false (.t 103)⟩),(7,⟨some 105,some (99,true),.call 45 [.t 102,.t 104]⟩),(8,⟨some 106,some (99,true),.bin .eql (.t 101) (.t 105)⟩),(9,oP 107 (.pick (.t 99) (.t 106) (.c (.bool false)))),(10,mV 108 107),(11,⟨some 109,some (108,true),.ld 2 true (.t 13)⟩),(12,⟨some 110,some (108,true),.fad 5 (.t 9)⟩),(13,⟨some 111,some (108,true),.ld 1 false (.t 110)⟩),(14,⟨some 112,some (108,true),.call 46 [.t 109,.t 111]⟩),(15,⟨some 113,some (108,true),.fad 5 (.t 4)⟩),(16,⟨some 114,some (108,true),.ld 1 false (.t 113)⟩),(17,⟨some 115,some (108,true),.bin .leq (.t 112) (.t 114)⟩),(18,oP 116 (.pick (.t 108) (.t 115) (.c (.bool false)))),(19,mV 2 116)]) .ret)))))))))
theorem dg15:Dg Tryz.prog 15 Tryz.f15 ic15 [(.t 2)]:=⟨Tryz.func15,by kernel_rfl,by kernel_rfl⟩
theorem c15 (code:B):FnR Tryz.prog G 15 [.sl 1 (code.map byR)] (.bool true):=by
  refine mF dg15 Tryz.ntmps15 ?_
  simp only [ic15,go_sem]
  by_cases hc:(1048576:Int)<code.length
  · simp only [eq_true hc,go_sem]
  simp only [eq_false hc,go_sem]
  refine callO (c37 code (by omega)) [] 19 0 (by simp only [go_sem];first|done|simp) (by simp) (by rintro _ _ ⟨_,_,_,_,_,rfl⟩;simp) (by intro i hi;omega) ?_
  rintro _ _ ⟨d,p,⟨hb,hl3,hq⟩,hpl,rfl,rfl⟩
  simp only [go_sem]
  have f1:=c38 d p hb (fun _=>hl3) (by omega)
  have f2:=c39 d p hb (by omega)
  have xb:=doorPass_db d p
  have hyes:=fun r (h:(doorPass d p).2=some r)=>doorPass_yes h
  obtain ⟨⟨x,o⟩,hx⟩:∃ y,doorPass d p=y:=⟨_,rfl⟩
  rw [hx] at f1 f2 xb hyes
  have f3:=l19 x xb
  simp only at f1 f2 f3 hyes xb
  cases o with
  | none =>
    simp only [Option.getD_none,Option.isSome_none] at f1 f2
    with_reducible repeat' (first|refine br ?_ ?_<;>intro h e<;>(try simp only [e,go_sem,dff])<;>clear e|rw [i64w (by omega)]|refine sd ?_<;>try simp only [go_sem,dff]|(first|refine cr (f1 ..) ?_|refine cr (f2 ..) ?_|refine cr (f3 ..) ?_)<;>try simp only [go_sem,dff]|fail)
  | some r =>
    obtain ⟨hd,hp,hdx,hdo⟩:=hyes r rfl
    simp only [Option.getD_some,Option.isSome_some] at f1 f2
    by_cases hk:p.kind=2
    rotate_left
    · with_reducible repeat' (first|refine br ?_ ?_<;>intro h e<;>(try simp only [e,go_sem,dtt,hk])<;>clear e|rw [i64w (by omega)]|refine sd ?_<;>try simp only [go_sem,dtt,hk]|(first|refine cr (f1 ..) ?_|refine cr (f2 ..) ?_|refine cr (f3 ..) ?_)<;>try simp only [go_sem,dtt,hk]|fail)
    obtain ⟨s,s1,⟨s2,s3⟩,s4,⟨s5,s6⟩,s7,h⟩:=law_ackBack hd hp hdo hk
    simp only [hk] at f1 f2 ⊢
    have f6:=c45 s p.at_.toNat s1 (by omega)
    have f7:=c46 s r.at_.toNat s1 (by omega)
    rw [show ((p.at_.toNat:Nat):Int)=p.at_ by omega] at f6
    rw [show ((r.at_.toNat:Nat):Int)=r.at_ by omega] at f7
    rw [← s4] at f6
    have f4:=c29 x p.frm p.to xb.2.1
    have f5:=c29 x r.to p.frm xb.2.1
    rcases h with ⟨hi,g,hg0,rfl⟩|⟨hi,g,hg0,rfl⟩
    · have hg:((flowIx x.flows p.frm p.to).bind fun k=>x.flows[k]?)=some g:=hg0
      have his:(flowIx x.flows p.frm p.to).isSome=true:=by
        cases h:flowIx x.flows p.frm p.to with
        | none=>rw [h] at hg;cases hg
        | some k=>rfl
      rw [hg,his] at f4
      simp only [Option.getD_some] at f4
      with_reducible repeat' (first|refine br ?_ ?_<;>intro h e<;>(try simp only [e,go_sem,dtt,hi])<;>clear e|rw [i64w (by omega)]|refine sd ?_<;>try simp only [go_sem,dtt,hi]|(first|refine cr (f1 ..) ?_|refine cr (f2 ..) ?_|refine cr (f3 ..) ?_|refine cr (f4 ..) ?_|refine cr (c41 ..) ?_|refine cr (f6 ..) ?_|refine cr (f7 ..) ?_)<;>try simp only [go_sem,dtt,hi]|fail)
      all_goals first|done|omega|exact (decide_eq_true s7).symm|trace_state
    · have hg:((flowIx x.flows r.to p.frm).bind fun k=>x.flows[k]?)=some g:=hg0
      have his:(flowIx x.flows r.to p.frm).isSome=true:=by
        cases h:flowIx x.flows r.to p.frm with
        | none=>rw [h] at hg;cases hg
        | some k=>rfl
      rw [hg,his] at f5
      generalize ((flowIx x.flows p.frm p.to).bind fun k=>x.flows[k]?).getD .zero=g0 at *
      generalize (flowIx x.flows p.frm p.to).isSome=b0 at *
      simp only [Option.getD_some] at f5
      with_reducible repeat' (first|refine br ?_ ?_<;>intro h e<;>(try simp only [e,go_sem,dtt,hi])<;>clear e|rw [i64w (by omega)]|refine sd ?_<;>try simp only [go_sem,dtt,hi]|(first|refine cr (f1 ..) ?_|refine cr (f2 ..) ?_|refine cr (f3 ..) ?_|refine cr (f4 ..) ?_|refine cr (f5 ..) ?_|refine cr (c41 ..) ?_|refine cr (f6 ..) ?_|refine cr (f7 ..) ?_)<;>try simp only [go_sem,dtt,hi]|fail)
      all_goals first|done|omega|exact (decide_eq_true s7).symm|trace_state
end Go.Proofs.YtfepdcpidkjklaaGreatDoor.W
namespace Go.Proofs.YtfepdcpidkjklaaGreatDoor.fnAckBack
open Go Go.ChangeShapes Go.WideShapes Go.ChangeAt Go.RowKit Go.Proofs.YtfepdcpidkjklaaGreatDoor.W
theorem walk (v0:Value) (W:World) (hs:W.ShapedOpen Tryz.prog) (hL:laidMetH Tryz.prog Rows.fnAckBackRow.laid W) (hv0:∃ code:M.B,VL.Den W noO noρ noH (.sl 1 (code.map M.byR)) v0) :
    Calls Tryz.prog 15 #[v0] W fun e W'=>e=.returned (.bool true)∧Below W.heap.size W W':=by
  obtain ⟨code,hdv0⟩:=hv0
  have:=Go.Proofs.YtfepdcpidkjklaaGreatDoor.W.FnR.calls (c15 code) (us:=[v0]) (gOk rfl hL hs) ⟨rfl,fun j a b ha hb=>by
    match j,ha,hb with
    | 0,ha,hb=>cases ha;cases hb;exact hdv0
    | j+1,ha,hb=>simp at ha⟩
  exact this
set_option maxRecDepth 100000 in
theorem contract (H:Type) (enc:TypeId × Value→H) (W:World) (base:Nat) (args:Array Value) (ds gs:List (DataW H)) (before:List MemPlace)
    (hval:∀ (j:Nat) t v,Tryz.f15.params[j]?=some t→args[j]?=some v→Value.okWide Tryz.prog W .any base t v)
    (hW:DataW.Whole enc Tryz.prog Tryz.f15.params.toList Rows.fnAckBackSpec.vars false W args.toList ds gs before) (hL:laidMetH Tryz.prog Rows.fnAckBackRow.laid W) (hs:W.ShapedOpen Tryz.prog) :
    Calls Tryz.prog 15 args W fun e W'=>∃ v,e=.returned v∧Rows.fnAckBackSpec.post enc Tryz.prog Tryz.f15 false true false false W args v W':=by
  have hW':=hW
  obtain ⟨p,q,hA0,hV,rfl,hfz,hnd⟩:=hW
  have hA:DataW.TrodAll enc Tryz.prog W 0 (fun _=>true) true Tryz.f15.params.toList args.toList ds p:=hA0
  rw [Tryz.params15] at hA hval
  obtain ⟨v0,r0s,d0,d0s,p0,q0,hargs0,rfl,rfl,h0,r0⟩:=trodAll_cons hA
  obtain ⟨e1,e2,e3⟩:=trodAll_nil r0
  subst e1 e2 e3
  obtain rfl:args=#[v0]:=by cases args;simp_all
  obtain ⟨rfl,rfl⟩:=trodVars_none hV
  obtain ⟨a0,len0,cap0,hv0⟩:=okWide_slice Tryz.underlying22 (hval 0 22 v0 rfl rfl)
  have k0:=h0
  have lt0:∀ x∈p0,x.block<W.heap.size:=by obtain ⟨m,hm⟩:=k0;exact DataW.trod_lt m _ _ _ hm
  have hc0:=open_code h0 ⟨a0,len0,cap0,hv0⟩
  clear hA0
  refine (walk v0 W hs hL hc0).mono fun e W' ⟨he,bel⟩=>?_
  subst he
  exact ⟨_,rfl,_,_,_,[],_,[],hW',trodAll_mk1 (shut_bool Tryz.underlying4 _),(trodAll_cons_mk (Below.trod laidOut (by kernel_rfl) (of_decide_eq_true (by kernel_rfl)) k0 bel lt0) trodAll_mk0),rfl,bel.frame _,fun h=>by cases h⟩
theorem inP:(Rows.fnAckBackRow.inPlace == Tryz.prog.inPlace 15)=true:=by kernel_rfl
theorem unf:(Rows.fnAckBackRow.unfollowed == Tryz.prog.unfollowed 15)=true:=by kernel_rfl
theorem rcs:(Rows.fnAckBackRow.recurses == Tryz.prog.recurses 15)=true:=by kernel_rfl
theorem nam:(Rows.fnAckBackRow.named == Tryz.prog.varsNamed 15)=true:=by kernel_rfl
theorem lif:(Rows.fnAckBackRow.lifted == Tryz.prog.liftsFinal)=true:=lifF
theorem pke:(Rows.fnAckBackRow.plainKeys == Tryz.prog.plainKeys)=true:=pkeF
theorem mak:(Tryz.prog.make == some Rows.fnAckBackRow.make)=true:=makF
theorem closed0:joinedFacts Tryz.prog 15 Tryz.f15 Rows.fnAckBackSpec Rows.fnAckBackRow=true:=by
  unfold joinedFacts
  rw [laidOut,mapF,inP,unf,rcs,nam,pke,stoF,mayF,lif,mak]
  kernel_rfl
theorem closed:joinedFacts Tryz.pinned.checked.prog 15 Tryz.f15 (OpenSpec.ofChange Rows.fnAckBackSpec).bare Rows.fnAckBackRow=true :=
  (show joinedFacts Tryz.pinned.checked.prog 15 Tryz.f15 (OpenSpec.ofChange Rows.fnAckBackSpec).bare Rows.fnAckBackRow=joinedFacts Tryz.prog 15 Tryz.f15 Rows.fnAckBackSpec Rows.fnAckBackRow by kernel_rfl).trans closed0
theorem door_met (os:Os) (args:Array Value):laidMetH Tryz.prog Rows.fnAckBackRow.laid ((World.doorLaid Tryz.prog 400 os).forCall (fun _ _=>0) ⟨#[],args,[]⟩).memory :=
  laidMetH_of_parts3 (fuel:=8) (laidMet_of_run' 8 (by kernel_rfl) (by kernel_rfl)) (by kernel_rfl) (by kernel_rfl)
theorem reads (os:Os) {H:Type} (enc:TypeId × Value→H):∃ places,DataW.whole enc Tryz.prog ((World.doorLaid Tryz.prog 400 os).forCall (fun _ _=>0) ⟨#[],#[.slice none 0 0],[]⟩).memory Tryz.f15.params.toList Rows.fnAckBackSpec.vars false #[Value.slice none 0 0].toList 8=some ([.nil],[],places) :=
  ⟨[],by kernel_rfl⟩
set_option maxRecDepth 100000 in
theorem lifted (os:Os) (started:os.Started) (H:Type) (enc:TypeId × Value→H) (F:Stop.Interp) :
    ReturnsInHanded {} Tryz.checked os 15 .any ((OpenSpec.ofChange Rows.fnAckBackSpec).preRow enc Tryz.prog Tryz.f15 Rows.fnAckBackRow.domain false Rows.fnAckBackRow.laid) (((OpenSpec.ofChange Rows.fnAckBackSpec).at F).post enc Tryz.prog Tryz.f15 false true false false):=by
  obtain ⟨places,hx⟩:=reads os enc
  refine returnsInHanded_of_row (C:=Tryz.checked) (s:=OpenSpec.ofChange Rows.fnAckBackSpec) own started (by kernel_rfl) Tryz.func15
    (witness_row_atRef (enc:=enc) (C:=Tryz.checked) false (World.doorLaid Tryz.prog 400 os) #[.slice none 0 0] rfl (by kernel_rfl) (by kernel_rfl) (by kernel_rfl)
      (OpenSpec.preRow_of_cond 8 hx (by kernel_rfl) (fun k hk=>by cases hk) (by kernel_rfl) (door_met os _))) ?_
  intro W base args ds gs before hval hW _ _ _ hL hs _
  exact contract H enc W base args ds gs before hval hW hL hs
theorem said:Rows.FnAckBackSaid :=
  OpenClaim.holds_of_cond 15 Tryz.f15 rfl rfl rfl rfl rfl rfl rfl ⟨rfl,rfl,rfl,rfl,rfl⟩ rfl rfl rfl rfl rfl (by kernel_rfl) Tryz.func15 closed
    (of_decide_eq_true (by kernel_rfl)) (by unfold Func.isWrapper;first|(rw [if_pos (by decide +kernel)];kernel_rfl)|(rw [if_neg (by decide +kernel)];exact ⟨rfl,rfl⟩))
    (fun os started H enc _ F=>by rw [OpenClaim.pre_eq_preRow];exact lifted os started H enc F)
theorem plain (f:FuncId) (fn:Func) (hf:Tryz.pinned.checked.prog.funcNamed "loop.example/ostiary/laws.FnAckBack"=some f) (hfn:Tryz.pinned.checked.prog.funcs[f]?=some fn) :
    true=Tryz.pinned.checked.prog.looks []∧∀ (j:Nat) t,fn.params[j]?=some t→Tryz.pinned.checked.prog.wantsStandIn t=false:=by
  obtain rfl:f=15:=Option.some.inj ((show Tryz.prog.funcNamed "loop.example/ostiary/laws.FnAckBack"=some 15 by kernel_rfl).symm.trans hf) |>.symm
  obtain rfl:fn=Tryz.f15:=(Option.some.inj (Tryz.func15.symm.trans hfn)).symm
  refine ⟨by kernel_rfl,fun j t ht=>?_⟩
  rw [Tryz.params15] at ht
  obtain rfl:t=22:=by simpa using Array.mem_of_getElem? ht
  exact (show Tryz.prog.wantsStandIn 22=false by kernel_rfl)
theorem card:Rows.FnAckBackCardSaid :=
  Claim7.holds_tied_plain_at .later [] _ _ _ _ said (fun _ h=>by cases h) (by kernel_rfl) (fun _ h=>by cases h) fnAckBack_row_tie rfl ⟨rfl,rfl⟩ (by kernel_rfl) rfl plain (by kernel_rfl)
end Go.Proofs.YtfepdcpidkjklaaGreatDoor.fnAckBack
