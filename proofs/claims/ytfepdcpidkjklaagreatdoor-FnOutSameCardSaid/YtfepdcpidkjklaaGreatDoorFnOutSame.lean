/- FnOutSame: whoever a packet goes to, one door port stands for one behind it. Conditions: those of the row alone. -/
import Derived.Test.YtfepdcpidkjklaaGreatDoorX07
import Derived.Test.YtfepdcpidkjklaaGreatDoorX04
import Derived.Test.YtfepdcpidkjklaaGreatDoorCards
import Derived.Test.YtfepdcpidkjklaaGreatDoorTie
set_option linter.all false
namespace Go.Proofs.YtfepdcpidkjklaaGreatDoor.W
open Go Go.RowKit Go.Proofs Go.Proofs.YtfepdcpidkjklaaGreatDoor.VL Go.Proofs.YtfepdcpidkjklaaGreatDoor.M
attribute [local congr] optK_congr guardK_congr condK_congr runT_congr runD_congr wpI_congr CallV_congr LoopI_congr pureK_congr effK_congr calK_congr stepV_congr doV_congr exN_congr exB_congr retF_congr retQ_congr gK_congr condW_congr ldK_congr stoK_congr
attribute [local go_sem] argL_cons argL_nil argH_nil argH_cons chH_getH wpI_seq wpI_reg wpI_drw wpI_ret cond_k condW_t condW_f wpI_skip wpI_block wpI_exit wpI_loop exN_n exN_r exN_e exB_n exB_r exB_h exB_m runT_k kT_e runT_nil runD_k kD_e runD_nil step_u step_k gK_t gK_f do_mv do_bino bo_add bo_sub bo_mul bo_subu bo_quo bo_rem bo_xor bo_eql bo_neq bo_lss bo_leq bo_gtr bo_geq bo_cat bo_eqs bo_nes do_pick do_call do_cal calK_f do_box do_alloc do_ldk ldK_s do_stok stoK_s do_fad do_nilc do_not do_neg do_len do_lens do_ext do_eqs do_beq do_isn do_cvi do_sls do_idx do_mn do_mx do_build do_mkf do_s2b do_b2s do_slv do_iad do_bsl do_mks do_app ev_t ev_c app_some app_none
attribute [local go_sem] List.nil_append List.cons_append List.append_nil getL_hit getL_miss getH_nil getH_hit getH_miss nm_eq ne_eq Nat.reduceEqDiff not_false_eq_true Nat.reduceAdd Nat.add_zero Nat.zero_add if_true if_false ite_true ite_false pureK_s effK_s optK_s gdV_t gdV_f gdV_s pick_b ge_iff_le gt_iff_lt cond_true cond_false fresh_k cells_agg cells_int cells_bool cells_str cells_own cells_sl cells_nils ld_pv ld_pa ld_ip ldVar_t ldVar_f ldArr_t ldArr_f ldRow_t ldRow_f ldA_s ld1_s fad_pv fad_pa fad_ip nilc_pv nilc_pa nilc_ip not_b neg_i cvi_i ext_t retF_n retF_r
attribute [local go_sem] resV_k rvs_nil rvs_t rvs_c fstO_s consO_s resK_s resL_1 resL_2 resL_3 resL_4  Option.some.injEq List.map_cons List.map_nil List.all_cons List.all_nil Bool.and_true Bool.and_self Bool.not_true Bool.not_false Option.map_some Option.map_none sls_s slsG_s loV_n loV_i hiV_n hiV_i idx_s mn_i mx_i s2b_s b2s_s bytO_s bytes_nil bytes_cons conB_s slv_sl slv_own slv_nils slvG_s slvN_s slvO_s iad_sl iadG_map take_map drop_map List.length_map iad_own iad_view iadO_a iadW_a mks_i rowO_nils rowO_sl rowO_own rowA_a eq_self appG_nils appG_own appO_a guardP_T mapA_s bld_nil mkf_nil bldF_e fill_nil fill_cons mkf_e lens_s len_nils len_sl len_own len_view isn_nile isn_erre List.getElem?_cons_zero List.getElem?_cons_succ List.length_cons List.length_nil decide_true decide_false Int.toNat_natCast Int.cast_ofNat_Int Int.reduceLT Int.reduceLE Int.reduceEq Int.reduceAdd Int.reduceSub Int.reduceMul Int.reduceNeg Int.reduceToNat List.getD_cons_zero List.getD_cons_succ not_true_eq_false not_false_eq_true Bool.false_eq_true Bool.true_eq_false reduceCtorEq
attribute [local go_sem] E.row Pc.row Pair.row Part.row Strm.row Flw.row Pk.row Door.row Conv.row World.row Ev.row rdV E.eta Pc.eta Pair.eta Part.eta Strm.eta Pk.eta Flw.eta Conv.eta Door.eta World.eta Ev.eta
attribute [local go_sem] sub_ok st_pv st_pa stVar_v stArr_a Nat.le_refl List.drop_zero List.drop_succ_cons List.take_succ_cons List.take_zero setR Nat.reduceLeDiff
attribute [local go_sem] wk_bot wk2_bot wk1_bot wk_undef wk_tup_e wk2_agg_e wk_agg_e wk1_fn_e wk2_fn_e wk_fn_e wkl_nil wkl_cons wkh_var_e wkh_arr_e wkh_fresh_e wkh_dead_v wkh_dead_a wkh_dead_d wk0_undef wk0_int wk0_bool wk0_str wk0_nils wk0_nils_sl wk0_nilp wk0_nile wk0_erre wk0_sl wk0_iptr wk0_own wk0_view wk0_pv wk0_pa fzA_a fzW_a fzP_v wk0_own_sl wk0_view_sl wk0_pv_iptr WkS_nil WkS_cons WkN_nil WkN_cons nonB_nil nonB_cons getN_nil getN_hit getN_miss pinOk_0 pinOk_s and_true true_and and_self
attribute [local go_sem] bot_int one_int unt_int clo_int bot_bool one_bool unt_bool clo_bool bot_str one_str unt_str clo_str bot_nils one_nils unt_nils clo_nils bot_nilp one_nilp unt_nilp clo_nilp bot_nile one_nile unt_nile clo_nile bot_erre one_erre unt_erre clo_erre bot_raw one_raw unt_raw clo_raw bot_sl one_sl unt_sl clo_sl bot_own one_own unt_own clo_own bot_view one_view unt_view clo_view bot_pv one_pv unt_pv clo_pv bot_pa one_pa unt_pa clo_pa bot_iptr one_iptr unt_iptr clo_iptr unt_agg unt_fn one_fn
attribute [local go_sem] rn_tup rn_agg rn2_agg rn_fn rn2_fn rnfn1 rn_bot rn2_bot rn1_bot rn0_int rn0_bool rn0_str rn0_nils rn0_nilp rn0_nile rn0_erre rn0_sl rn0_iptr rn0_own rn0_view rn0_pv rn0_pa hrn_var hrn_arr hrn_dead outU_nil outU_cons deads_nil deads_cons bk_ge bk_lt nsF_0 nsF_s chH_0 chH_s chH_n newN_e andB_s eqR_nil eqR_i eqR_b eqR_s mapX_f mapX_t eqs_a beq_f beq_t live_arr live_var nsl_nil nsl_cons Nat.reduceMul Nat.reduceLT Nat.zero_le Nat.not_lt_zero
attribute [local go_sem] mV lD lA fD bN eX oP nP sR i0 s0
def ic3:IC:=sR [oP 4 (.mv (.c (.bool false)))] (.seq (sR [mV 17 0,oP 18 (.len (.t 17)),oP 19 (.bin .gtr (.t 18) (.c (.int .i64 1048576))),mV 20 19,⟨some 21,some (20,false),.mv (.t 1)⟩,⟨some 22,some (20,false),.len (.t 21)⟩,⟨some 23,some (20,false),.bin .gtr (.t 22) (.c (.int .i64 1048576))⟩,oP 24 (.pick (.t 20) (.c (.bool true)) (.t 23))] (.cond (.t 24) (sR [oP 4 (.mv (.c (.bool true)))] .ret) .skip)) (sR [mV 26 0,oP 27 (.call 16 [.t 26]),mV 25 27,eX 28 25 0,eX 29 25 1,oP 5 (.alloc 26 [.nils,.nils]),oP 6 (.alloc 30 [i0,i0,i0,i0,i0,i0,s0]),nP (.sto 2 (.t 5) (.t 28)),nP (.sto 7 (.t 6) (.t 29))] (sR [lA 31 2 5,lA 32 7 6,oP 33 (.call 17 [.t 31,.t 32]),mV 30 33,eX 34 30 0,eX 35 30 1,eX 36 30 2,oP 7 (.alloc 26 [.nils,.nils]),oP 8 (.alloc 30 [i0,i0,i0,i0,i0,i0,s0]),nP (.sto 2 (.t 7) (.t 34)),nP (.sto 7 (.t 8) (.t 35)),mV 9 36] (sR [lA 38 2 5,lA 39 7 6,oP 40 (.call 18 [.t 38,.t 39]),mV 37 40,eX 41 37 0,eX 42 37 1,eX 43 37 2,oP 10 (.alloc 26 [.nils,.nils]),oP 11 (.alloc 30 [i0,i0,i0,i0,i0,i0,s0]),nP (.sto 2 (.t 10) (.t 41)),nP (.sto 7 (.t 11) (.t 42)),mV 12 43] (.seq (sR [mV 44 12,mV 45 9,oP 46 (.beq true (.t 44) (.t 45)),mV 47 46,⟨some 48,some (47,false),.ld 7 true (.t 11)⟩,⟨some 49,some (47,false),.ld 7 true (.t 8)⟩,⟨some 50,some (47,false),.eqs true [.i,.i,.i,.i,.i,.i,.s] (.t 48) (.t 49)⟩,oP 51 (.pick (.t 47) (.c (.bool true)) (.t 50)),mV 52 51,⟨some 53,some (52,false),.ld 2 true (.t 10)⟩,⟨some 54,some (52,false),.ld 2 true (.t 7)⟩,⟨some 55,some (52,false),.call 19 [.t 53,.t 54]⟩,⟨some 56,some (52,false),.un .not (.t 55)⟩,oP 57 (.pick (.t 52) (.c (.bool true)) (.t 56)),mV 58 57,⟨some 59,some (58,false),.mv (.t 12)⟩,⟨some 60,some (58,false),.un .not (.t 59)⟩,oP 61 (.pick (.t 58) (.c (.bool true)) (.t 60))] (.cond (.t 61) (sR [mV 62 12,mV 63 9,oP 64 (.beq false (.t 62) (.t 63)),mV 65 64,⟨some 66,some (65,true),.ld 7 true (.t 11)⟩,⟨some 67,some (65,true),.ld 7 true (.t 8)⟩,⟨some 68,some (65,true),.eqs false [.i,.i,.i,.i,.i,.i,.s] (.t 66) (.t 67)⟩,oP 69 (.pick (.t 65) (.t 68) (.c (.bool false))),mV 70 69,⟨some 71,some (70,true),.ld 2 true (.t 10)⟩,⟨some 72,some (70,true),.ld 2 true (.t 7)⟩,⟨some 73,some (70,true),.call 19 [.t 71,.t 72]⟩,oP 74 (.pick (.t 70) (.t 73) (.c (.bool false))),mV 4 74] .ret) .skip)) (sR [fD 75 1 6,lA 76 2 75,mV 77 1,oP 78 (.len (.t 77)),oP 79 (.bin .rem (.t 78) (.c (.int .i64 9))),oP 80 (.bin .add (.c (.int .i64 1)) (.t 79)),oP 81 (.build [i0,i0] [(0,(1,.c (.int .i64 6))),(1,(1,.t 80))]),oP 82 (.build [i0,i0,i0,i0,i0,i0,s0] [(0,(1,.c (.int .i64 1))),(1,(2,.t 76)),(3,(2,.t 81)),(6,(1,.c (.str [104,105])))]),oP 13 (.alloc 30 [i0,i0,i0,i0,i0,i0,s0]),nP (.sto 7 (.t 13) (.t 82))] (sR [lA 84 2 10,lA 85 7 13,oP 86 (.call 18 [.t 84,.t 85]),mV 83 86,eX 87 83 0,eX 88 83 1,eX 89 83 2,oP 14 (.alloc 26 [.nils,.nils]),oP 15 (.alloc 30 [i0,i0,i0,i0,i0,i0,s0]),nP (.sto 2 (.t 14) (.t 87)),nP (.sto 7 (.t 15) (.t 88)),mV 16 89] (sR [mV 90 16,oP 91 (.un .not (.t 90)),mV 92 91,⟨some 93,some (92,false),.fad 1 (.t 15)⟩,⟨some 94,some (92,false),.ld 2 true (.t 93)⟩,⟨some 95,some (92,false),.fad 1 (.t 11)⟩,⟨some 96,some (92,false),.ld 2 true (.t 95)⟩,⟨some 97,some (92,false),.eqs false [.i,.i] (.t 94) (.t 96)⟩,⟨some 98,some (92,false),.mv (.t 97)⟩,⟨some 99,some (98,true),.fad 3 (.t 15)⟩,⟨some 100,some (98,true),.ld 2 true (.t 99)⟩,⟨some 101,some (98,true),.fad 3 (.t 13)⟩,⟨some 102,some (98,true),.ld 2 true (.t 101)⟩,⟨some 103,some (98,true),.eqs false [.i,.i] (.t 100) (.t 102)⟩,⟨some 104,some (92,false),.pick (.t 98) (.t 103) (.c (.bool false))⟩,⟨some 105,some (92,false),.mv (.t 104)⟩,⟨some 106,some (105,true),.ld 2 true (.t 14)⟩,⟨some 107,some (105,true),.call 20 [.t 106]⟩,⟨some 108,some (92,false),.pick (.t 105) (.t 107) (.c (.bool false))⟩,oP 109 (.pick (.t 92) (.c (.bool true)) (.t 108)),mV 4 109] .ret))))))))
theorem dg3:Dg Tryz.prog 3 Tryz.f3 ic3 [(.t 4)]:=⟨Tryz.func3,by kernel_rfl,by kernel_rfl⟩
theorem c3 (code more:B):FnR Tryz.prog G 3 [.sl 1 (code.map byR),.sl 1 (more.map byR)] (.bool true):=by
  refine mF dg3 Tryz.ntmps3 ?_
  simp only [ic3,go_sem]
  by_cases hc:(1048576:Int)<code.length
  · simp only [eq_true hc,go_sem]
  simp only [eq_false hc,go_sem]
  by_cases hm:(1048576:Int)<more.length
  · simp only [eq_true hm,go_sem]
  simp only [eq_false hm,go_sem]
  refine callO (c16 code (by omega)) [] 27 0 (by simp only [go_sem];first|done|simp) (by simp) (by rintro _ _ ⟨_,_,_,_,_,rfl⟩;simp) (by intro i hi;omega) ?_
  rintro _ _ ⟨d,p,⟨hb,hl3,hq⟩,hpl,rfl,rfl⟩
  simp only [go_sem]
  have f1:=c17 d p hb (fun _=>hl3) (by omega)
  have f2:=c18 d p hb (by omega)
  have xb:=doorOut_db d p
  have hyes:=fun r (h:(doorOut d p).2=some r)=>doorOut_yes h
  obtain ⟨⟨x,o⟩,hx⟩:∃ y,doorOut d p=y:=⟨_,rfl⟩
  rw [hx] at f1 f2 xb hyes
  have f3:=l19 x xb
  simp only at f1 f2 f3 hyes xb
  cases o with
  | none =>
    simp only [Option.getD_none,Option.isSome_none] at f1 f2
    with_reducible repeat' (first|refine br ?_ ?_<;>intro h e<;>(try simp only [e,go_sem,dff])<;>clear e|rw [i64w (by omega)]|refine sd ?_<;>try simp only [go_sem,dff]|(first|refine cr (f1 ..) ?_|refine cr (f2 ..) ?_|refine cr (f3 ..) ?_)<;>try simp only [go_sem,dff]|fail)
  | some r =>
    obtain ⟨hd,hp,ho,hdx,hdo⟩:=hyes r rfl
    simp only [Option.getD_some,Option.isSome_some] at f1 f2
    have w1:((more.length:Int)).tmod 9=(more.length % 9:Nat):=tmod_n more.length 9
    have f4:=c18 x ⟨1,p.frm,⟨6,1+((more.length % 9:Nat):Int)⟩,0,[104,105]⟩ xb (by simp)
    have hyes2:=fun s (h:(doorOut x ⟨1,p.frm,⟨6,1+((more.length % 9:Nat):Int)⟩,0,[104,105]⟩).2=some s)=>doorOut_yes h
    obtain ⟨⟨y,o2⟩,hy⟩:∃ y,doorOut x ⟨1,p.frm,⟨6,1+((more.length % 9:Nat):Int)⟩,0,[104,105]⟩=y:=⟨_,rfl⟩
    rw [hy] at f4 hyes2
    simp only at f4 hyes2
    cases o2 with
    | none =>
      simp only [Option.getD_none,Option.isSome_none] at f4
      with_reducible repeat' (first|refine br ?_ ?_<;>intro h e<;>(try simp only [e,go_sem,w1,dtt,dff])<;>clear e|rw [i64w (by omega)]|refine sd ?_<;>try simp only [go_sem,w1,dtt,dff]|(first|refine cr (f1 ..) ?_|refine cr (f2 ..) ?_|refine cr (f3 ..) ?_|refine cr (f4 ..) ?_)<;>try simp only [go_sem,w1,dtt,dff]|fail)
    | some s =>
      obtain ⟨hd2,hp2,ho2,hdy,hdo2⟩:=hyes2 s rfl
      obtain ⟨e1,e2,e3⟩:=law_outSame hd hp ho hdo hp2 ho2 rfl hdo2
      have f5:=c20 y (ok_db hdy)
      rw [hdy] at f5
      simp only [Option.getD_some,Option.isSome_some] at f4
      with_reducible repeat' (first|refine br ?_ ?_<;>intro h e<;>(try simp only [e,go_sem,w1,e1,e2,dtt,dff])<;>clear e|rw [i64w (by omega)]|refine sd ?_<;>try simp only [go_sem,w1,e1,e2,dtt,dff]|(first|refine cr (f1 ..) ?_|refine cr (f2 ..) ?_|refine cr (f3 ..) ?_|refine cr (f4 ..) ?_|refine cr (f5 ..) ?_)<;>try simp only [go_sem,w1,e1,e2,dtt,dff]|fail)
end Go.Proofs.YtfepdcpidkjklaaGreatDoor.W
namespace Go.Proofs.YtfepdcpidkjklaaGreatDoor.fnOutSame
open Go Go.ChangeShapes Go.WideShapes Go.ChangeAt Go.RowKit Go.Proofs.YtfepdcpidkjklaaGreatDoor.W
theorem walk (v0 v1:Value) (W:World) (hs:W.ShapedOpen Tryz.prog) (hL:laidMetH Tryz.prog Rows.fnOutSameRow.laid W) (hv0:∃ code:M.B,VL.Den W noO noρ noH (.sl 1 (code.map M.byR)) v0) (hv1:∃ code:M.B,VL.Den W noO noρ noH (.sl 1 (code.map M.byR)) v1) :
    Calls Tryz.prog 3 #[v0,v1] W fun e W'=>e=.returned (.bool true)∧Below W.heap.size W W':=by
  obtain ⟨code,hdv0⟩:=hv0
  obtain ⟨more,hdv1⟩:=hv1
  have:=Go.Proofs.YtfepdcpidkjklaaGreatDoor.W.FnR.calls (c3 code more) (us:=[v0,v1]) (gOk rfl hL hs) ⟨rfl,fun j a b ha hb=>by
    match j,ha,hb with
    | 0,ha,hb=>cases ha;cases hb;exact hdv0
    | 1,ha,hb=>cases ha;cases hb;exact hdv1
    | j+2,ha,hb=>simp at ha⟩
  exact this
set_option maxRecDepth 100000 in
theorem contract (H:Type) (enc:TypeId × Value→H) (W:World) (base:Nat) (args:Array Value) (ds gs:List (DataW H)) (before:List MemPlace)
    (hval:∀ (j:Nat) t v,Tryz.f3.params[j]?=some t→args[j]?=some v→Value.okWide Tryz.prog W .any base t v)
    (hW:DataW.Whole enc Tryz.prog Tryz.f3.params.toList Rows.fnOutSameSpec.vars false W args.toList ds gs before) (hL:laidMetH Tryz.prog Rows.fnOutSameRow.laid W) (hs:W.ShapedOpen Tryz.prog) :
    Calls Tryz.prog 3 args W fun e W'=>∃ v,e=.returned v∧Rows.fnOutSameSpec.post enc Tryz.prog Tryz.f3 false true false false W args v W':=by
  have hW':=hW
  obtain ⟨p,q,hA0,hV,rfl,hfz,hnd⟩:=hW
  have hA:DataW.TrodAll enc Tryz.prog W 0 (fun _=>true) true Tryz.f3.params.toList args.toList ds p:=hA0
  rw [Tryz.params3] at hA hval
  obtain ⟨v0,r0s,d0,d0s,p0,q0,hargs0,rfl,rfl,h0,r0⟩:=trodAll_cons hA
  obtain ⟨v1,r1s,d1,d1s,p1,q1,hargs1,rfl,rfl,h1,r1⟩:=trodAll_cons r0
  obtain ⟨e1,e2,e3⟩:=trodAll_nil r1
  subst e1 e2 e3
  obtain rfl:args=#[v0,v1]:=by cases args;simp_all
  obtain ⟨rfl,rfl⟩:=trodVars_none hV
  obtain ⟨a0,len0,cap0,hv0⟩:=okWide_slice Tryz.underlying22 (hval 0 22 v0 rfl rfl)
  have k0:=h0
  have lt0:∀ x∈p0,x.block<W.heap.size:=by obtain ⟨m,hm⟩:=k0;exact DataW.trod_lt m _ _ _ hm
  have hc0:=open_code h0 ⟨a0,len0,cap0,hv0⟩
  obtain ⟨a1,len1,cap1,hv1⟩:=okWide_slice Tryz.underlying22 (hval 1 22 v1 rfl rfl)
  have k1:=h1
  have lt1:∀ x∈p1,x.block<W.heap.size:=by obtain ⟨m,hm⟩:=k1;exact DataW.trod_lt m _ _ _ hm
  have hc1:=open_code h1 ⟨a1,len1,cap1,hv1⟩
  clear hA0
  refine (walk v0 v1 W hs hL hc0 hc1).mono fun e W' ⟨he,bel⟩=>?_
  subst he
  exact ⟨_,rfl,_,_,_,[],_,[],hW',trodAll_mk1 (shut_bool Tryz.underlying4 _),(trodAll_cons_mk (Below.trod laidOut (by kernel_rfl) (of_decide_eq_true (by kernel_rfl)) k0 bel lt0) (trodAll_cons_mk (Below.trod laidOut (by kernel_rfl) (of_decide_eq_true (by kernel_rfl)) k1 bel lt1) trodAll_mk0)),rfl,bel.frame _,fun h=>by cases h⟩
theorem inP:(Rows.fnOutSameRow.inPlace == Tryz.prog.inPlace 3)=true:=by kernel_rfl
theorem unf:(Rows.fnOutSameRow.unfollowed == Tryz.prog.unfollowed 3)=true:=by kernel_rfl
theorem rcs:(Rows.fnOutSameRow.recurses == Tryz.prog.recurses 3)=true:=by kernel_rfl
theorem nam:(Rows.fnOutSameRow.named == Tryz.prog.varsNamed 3)=true:=by kernel_rfl
theorem lif:(Rows.fnOutSameRow.lifted == Tryz.prog.liftsFinal)=true:=lifF
theorem pke:(Rows.fnOutSameRow.plainKeys == Tryz.prog.plainKeys)=true:=pkeF
theorem mak:(Tryz.prog.make == some Rows.fnOutSameRow.make)=true:=makF
theorem closed0:joinedFacts Tryz.prog 3 Tryz.f3 Rows.fnOutSameSpec Rows.fnOutSameRow=true:=by
  unfold joinedFacts
  rw [laidOut,mapF,inP,unf,rcs,nam,pke,stoF,mayF,lif,mak]
  kernel_rfl
theorem closed:joinedFacts Tryz.pinned.checked.prog 3 Tryz.f3 (OpenSpec.ofChange Rows.fnOutSameSpec).bare Rows.fnOutSameRow=true :=
  (show joinedFacts Tryz.pinned.checked.prog 3 Tryz.f3 (OpenSpec.ofChange Rows.fnOutSameSpec).bare Rows.fnOutSameRow=joinedFacts Tryz.prog 3 Tryz.f3 Rows.fnOutSameSpec Rows.fnOutSameRow by kernel_rfl).trans closed0
theorem door_met (os:Os) (args:Array Value):laidMetH Tryz.prog Rows.fnOutSameRow.laid ((World.doorLaid Tryz.prog 400 os).forCall (fun _ _=>0) ⟨#[],args,[]⟩).memory :=
  laidMetH_of_parts3 (fuel:=8) (laidMet_of_run' 8 (by kernel_rfl) (by kernel_rfl)) (by kernel_rfl) (by kernel_rfl)
theorem reads (os:Os) {H:Type} (enc:TypeId × Value→H):∃ places,DataW.whole enc Tryz.prog ((World.doorLaid Tryz.prog 400 os).forCall (fun _ _=>0) ⟨#[],#[.slice none 0 0,.slice none 0 0],[]⟩).memory Tryz.f3.params.toList Rows.fnOutSameSpec.vars false #[Value.slice none 0 0,Value.slice none 0 0].toList 8=some ([.nil,.nil],[],places) :=
  ⟨[],by kernel_rfl⟩
set_option maxRecDepth 100000 in
theorem lifted (os:Os) (started:os.Started) (H:Type) (enc:TypeId × Value→H) (F:Stop.Interp) :
    ReturnsInHanded {} Tryz.checked os 3 .any ((OpenSpec.ofChange Rows.fnOutSameSpec).preRow enc Tryz.prog Tryz.f3 Rows.fnOutSameRow.domain false Rows.fnOutSameRow.laid) (((OpenSpec.ofChange Rows.fnOutSameSpec).at F).post enc Tryz.prog Tryz.f3 false true false false):=by
  obtain ⟨places,hx⟩:=reads os enc
  refine returnsInHanded_of_row (C:=Tryz.checked) (s:=OpenSpec.ofChange Rows.fnOutSameSpec) own started (by kernel_rfl) Tryz.func3
    (witness_row_atRef (enc:=enc) (C:=Tryz.checked) false (World.doorLaid Tryz.prog 400 os) #[.slice none 0 0,.slice none 0 0] rfl (by kernel_rfl) (by kernel_rfl) (by kernel_rfl)
      (OpenSpec.preRow_of_cond 8 hx (by kernel_rfl) (fun k hk=>by cases hk) (by kernel_rfl) (door_met os _))) ?_
  intro W base args ds gs before hval hW _ _ _ hL hs _
  exact contract H enc W base args ds gs before hval hW hL hs
theorem said:Rows.FnOutSameSaid :=
  OpenClaim.holds_of_cond 3 Tryz.f3 rfl rfl rfl rfl rfl rfl rfl ⟨rfl,rfl,rfl,rfl,rfl⟩ rfl rfl rfl rfl rfl (by kernel_rfl) Tryz.func3 closed
    (of_decide_eq_true (by kernel_rfl)) (by unfold Func.isWrapper;first|(rw [if_pos (by decide +kernel)];kernel_rfl)|(rw [if_neg (by decide +kernel)];exact ⟨rfl,rfl⟩))
    (fun os started H enc _ F=>by rw [OpenClaim.pre_eq_preRow];exact lifted os started H enc F)
theorem plain (f:FuncId) (fn:Func) (hf:Tryz.pinned.checked.prog.funcNamed "loop.example/ostiary/laws.FnOutSame"=some f) (hfn:Tryz.pinned.checked.prog.funcs[f]?=some fn) :
    true=Tryz.pinned.checked.prog.looks []∧∀ (j:Nat) t,fn.params[j]?=some t→Tryz.pinned.checked.prog.wantsStandIn t=false:=by
  obtain rfl:f=3:=Option.some.inj ((show Tryz.prog.funcNamed "loop.example/ostiary/laws.FnOutSame"=some 3 by kernel_rfl).symm.trans hf) |>.symm
  obtain rfl:fn=Tryz.f3:=(Option.some.inj (Tryz.func3.symm.trans hfn)).symm
  refine ⟨by kernel_rfl,fun j t ht=>?_⟩
  rw [Tryz.params3] at ht
  obtain rfl:t=22:=by simpa using Array.mem_of_getElem? ht
  exact (show Tryz.prog.wantsStandIn 22=false by kernel_rfl)
theorem card:Rows.FnOutSameCardSaid :=
  Claim7.holds_tied_plain_at .later [] _ _ _ _ said (fun _ h=>by cases h) (by kernel_rfl) (fun _ h=>by cases h) fnOutSame_row_tie rfl ⟨rfl,rfl⟩ (by kernel_rfl) rfl plain (by kernel_rfl)
end Go.Proofs.YtfepdcpidkjklaaGreatDoor.fnOutSame
