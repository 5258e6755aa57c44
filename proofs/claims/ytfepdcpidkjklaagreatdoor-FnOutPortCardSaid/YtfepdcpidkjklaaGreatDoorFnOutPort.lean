/- FnOutPort: what goes out comes from the door's port for its sender. Conditions: those of the row alone. -/
import Derived.Test.YtfepdcpidkjklaaGreatDoorX07
import Derived.Test.YtfepdcpidkjklaaGreatDoorX04
import Derived.Test.YtfepdcpidkjklaaGreatDoorCards
import Derived.Test.YtfepdcpidkjklaaGreatDoorTie
set_option linter.all false
namespace Go.Proofs.YtfepdcpidkjklaaGreatDoor.W
open Go Go.RowKit Go.Proofs Go.Proofs.YtfepdcpidkjklaaGreatDoor.VL Go.Proofs.YtfepdcpidkjklaaGreatDoor.M
attribute [local congr] optK_congr guardK_congr condK_congr runT_congr runD_congr wpI_congr CallV_congr LoopI_congr pureK_congr effK_congr calK_congr stepV_congr doV_congr exN_congr exB_congr retF_congr retQ_congr gK_congr condW_congr ldK_congr stoK_congr
attribute [local go_sem] argL_cons argL_nil argH_nil argH_cons chH_getH wpI_seq wpI_reg wpI_drw wpI_ret cond_k condW_t condW_f wpI_skip wpI_block wpI_exit wpI_loop exN_n exN_r exN_e exB_n exB_r exB_h exB_m runT_k kT_e runT_nil runD_k kD_e runD_nil step_u step_k gK_t gK_f do_mv do_bino bo_add bo_sub bo_mul bo_subu bo_quo bo_rem bo_xor bo_eql bo_neq bo_lss bo_leq bo_gtr bo_geq bo_cat bo_eqs bo_nes do_pick do_call do_cal calK_f do_box do_alloc do_ldk ldK_s do_stok stoK_s do_fad do_nilc do_not do_neg do_len do_lens do_ext do_eqs do_beq do_isn do_cvi do_sls do_idx do_mn do_mx do_build do_mkf do_s2b do_b2s do_slv do_iad do_bsl do_mks do_app ev_t ev_c app_some app_none
attribute [local go_sem] List.nil_append List.cons_append List.append_nil getL_hit getL_miss getH_nil getH_hit getH_miss nm_eq ne_eq Nat.reduceEqDiff not_false_eq_true Nat.reduceAdd Nat.add_zero Nat.zero_add if_true if_false ite_true ite_false pureK_s effK_s optK_s gdV_t gdV_f gdV_s pick_b ge_iff_le gt_iff_lt cond_true cond_false fresh_k cells_agg cells_int cells_bool cells_str cells_own cells_sl cells_nils ld_pv ld_pa ld_ip ldVar_t ldVar_f ldArr_t ldArr_f ldRow_t ldRow_f ldA_s ld1_s fad_pv fad_pa fad_ip nilc_pv nilc_pa nilc_ip not_b neg_i cvi_i ext_t retF_n retF_r
attribute [local go_sem] resV_k rvs_nil rvs_t rvs_c fstO_s consO_s resK_s resL_1 resL_2 resL_3 resL_4  Option.some.injEq List.map_cons List.map_nil List.all_cons List.all_nil Bool.and_true Bool.and_self Bool.not_true Bool.not_false Option.map_some Option.map_none sls_s slsG_s loV_n loV_i hiV_n hiV_i idx_s mn_i mx_i s2b_s b2s_s bytO_s bytes_nil bytes_cons conB_s slv_sl slv_own slv_nils slvG_s slvN_s slvO_s iad_sl iadG_map take_map drop_map List.length_map iad_own iad_view iadO_a iadW_a mks_i rowO_nils rowO_sl rowO_own rowA_a eq_self appG_nils appG_own appO_a guardP_T mapA_s bld_nil mkf_nil bldF_e fill_nil fill_cons mkf_e lens_s len_nils len_sl len_own len_view isn_nile isn_erre List.getElem?_cons_zero List.getElem?_cons_succ List.length_cons List.length_nil decide_true decide_false Int.toNat_natCast Int.cast_ofNat_Int Int.reduceLT Int.reduceLE Int.reduceEq Int.reduceAdd Int.reduceSub Int.reduceMul Int.reduceNeg Int.reduceToNat List.getD_cons_zero List.getD_cons_succ not_true_eq_false not_false_eq_true Bool.false_eq_true Bool.true_eq_false reduceCtorEq
attribute [local go_sem] E.row Pc.row Pair.row Part.row Strm.row Flw.row Pk.row Door.row Conv.row World.row Ev.row rdV E.eta Pc.eta Pair.eta Part.eta Strm.eta Pk.eta Flw.eta Conv.eta Door.eta World.eta Ev.eta
attribute [local go_sem] sub_ok st_pv st_pa stVar_v stArr_a Nat.le_refl List.drop_zero List.drop_succ_cons List.take_succ_cons List.take_zero setR Nat.reduceLeDiff
attribute [local go_sem] wk_bot wk2_bot wk1_bot wk_undef wk_tup_e wk2_agg_e wk_agg_e wk1_fn_e wk2_fn_e wk_fn_e wkl_nil wkl_cons wkh_var_e wkh_arr_e wkh_fresh_e wkh_dead_v wkh_dead_a wkh_dead_d wk0_undef wk0_int wk0_bool wk0_str wk0_nils wk0_nils_sl wk0_nilp wk0_nile wk0_erre wk0_sl wk0_iptr wk0_own wk0_view wk0_pv wk0_pa fzA_a fzW_a fzP_v wk0_own_sl wk0_view_sl wk0_pv_iptr WkS_nil WkS_cons WkN_nil WkN_cons nonB_nil nonB_cons getN_nil getN_hit getN_miss pinOk_0 pinOk_s and_true true_and and_self
attribute [local go_sem] bot_int one_int unt_int clo_int bot_bool one_bool unt_bool clo_bool bot_str one_str unt_str clo_str bot_nils one_nils unt_nils clo_nils bot_nilp one_nilp unt_nilp clo_nilp bot_nile one_nile unt_nile clo_nile bot_erre one_erre unt_erre clo_erre bot_raw one_raw unt_raw clo_raw bot_sl one_sl unt_sl clo_sl bot_own one_own unt_own clo_own bot_view one_view unt_view clo_view bot_pv one_pv unt_pv clo_pv bot_pa one_pa unt_pa clo_pa bot_iptr one_iptr unt_iptr clo_iptr unt_agg unt_fn one_fn
attribute [local go_sem] rn_tup rn_agg rn2_agg rn_fn rn2_fn rnfn1 rn_bot rn2_bot rn1_bot rn0_int rn0_bool rn0_str rn0_nils rn0_nilp rn0_nile rn0_erre rn0_sl rn0_iptr rn0_own rn0_view rn0_pv rn0_pa hrn_var hrn_arr hrn_dead outU_nil outU_cons deads_nil deads_cons bk_ge bk_lt nsF_0 nsF_s chH_0 chH_s chH_n newN_e andB_s eqR_nil eqR_i eqR_b eqR_s mapX_f mapX_t eqs_a beq_f beq_t live_arr live_var nsl_nil nsl_cons Nat.reduceMul Nat.reduceLT Nat.zero_le Nat.not_lt_zero
attribute [local go_sem] mV lD lA fD bN eX oP nP sR i0 s0
def ic6:IC:=sR [oP 2 (.mv (.c (.bool false)))] (.seq (sR [mV 15 0,oP 16 (.len (.t 15)),oP 17 (.bin .gtr (.t 16) (.c (.int .i64 1048576)))] (.cond (.t 17) (sR [oP 2 (.mv (.c (.bool true)))] .ret) .skip)) (sR [mV 19 0,oP 20 (.call 16 [.t 19]),mV 18 20,eX 21 18 0,eX 22 18 1,oP 3 (.alloc 26 [.nils,.nils]),oP 4 (.alloc 30 [i0,i0,i0,i0,i0,i0,s0]),nP (.sto 2 (.t 3) (.t 21)),nP (.sto 7 (.t 4) (.t 22))] (sR [lA 24 2 3,lA 25 7 4,oP 26 (.call 17 [.t 24,.t 25]),mV 23 26,eX 27 23 0,eX 28 23 1,eX 29 23 2,oP 5 (.alloc 26 [.nils,.nils]),oP 6 (.alloc 30 [i0,i0,i0,i0,i0,i0,s0]),nP (.sto 2 (.t 5) (.t 27)),nP (.sto 7 (.t 6) (.t 28)),mV 7 29] (sR [lA 31 2 3,lA 32 7 4,oP 33 (.call 18 [.t 31,.t 32]),mV 30 33,eX 34 30 0,eX 35 30 1,eX 36 30 2,oP 8 (.alloc 26 [.nils,.nils]),oP 9 (.alloc 30 [i0,i0,i0,i0,i0,i0,s0]),nP (.sto 2 (.t 8) (.t 34)),nP (.sto 7 (.t 9) (.t 35)),mV 10 36] (.seq (sR [mV 37 10,mV 38 7,oP 39 (.beq true (.t 37) (.t 38)),mV 40 39,⟨some 41,some (40,false),.ld 7 true (.t 9)⟩,⟨some 42,some (40,false),.ld 7 true (.t 6)⟩,⟨some 43,some (40,false),.eqs true [.i,.i,.i,.i,.i,.i,.s] (.t 41) (.t 42)⟩,oP 44 (.pick (.t 40) (.c (.bool true)) (.t 43)),mV 45 44,⟨some 46,some (45,false),.ld 2 true (.t 8)⟩,⟨some 47,some (45,false),.ld 2 true (.t 5)⟩,⟨some 48,some (45,false),.call 19 [.t 46,.t 47]⟩,⟨some 49,some (45,false),.un .not (.t 48)⟩,oP 50 (.pick (.t 45) (.c (.bool true)) (.t 49)),mV 51 50,⟨some 52,some (51,false),.mv (.t 10)⟩,⟨some 53,some (51,false),.un .not (.t 52)⟩,oP 54 (.pick (.t 51) (.c (.bool true)) (.t 53))] (.cond (.t 54) (sR [mV 55 10,mV 56 7,oP 57 (.beq false (.t 55) (.t 56)),mV 58 57,⟨some 59,some (58,true),.ld 7 true (.t 9)⟩,⟨some 60,some (58,true),.ld 7 true (.t 6)⟩,⟨some 61,some (58,true),.eqs false [.i,.i,.i,.i,.i,.i,.s] (.t 59) (.t 60)⟩,oP 62 (.pick (.t 58) (.t 61) (.c (.bool false))),mV 63 62,⟨some 64,some (63,true),.ld 2 true (.t 8)⟩,⟨some 65,some (63,true),.ld 2 true (.t 5)⟩,⟨some 66,some (63,true),.call 19 [.t 64,.t 65]⟩,oP 67 (.pick (.t 63) (.t 66) (.c (.bool false))),mV 2 67] .ret) .skip)) (sR [fD 69 0 8,lD 70 1 69,fD 71 1 9,fD 72 1 71,lD 73 1 72,oP 74 (.call 28 [.t 70,.t 73]),mV 68 74,eX 75 68 0,eX 76 68 1,oP 11 (.alloc 28 [i0,i0]),nP (.sto 2 (.t 11) (.t 75)),mV 12 76] (sR [lA 78 2 8,fD 79 1 4,lA 80 2 79,fD 81 3 4,lA 82 2 81,oP 83 (.call 29 [.t 78,.t 80,.t 82]),mV 77 83,eX 84 77 0,eX 85 77 1,oP 13 (.alloc 46 [i0,i0,i0,i0,s0,.nils,s0,.nils]),nP (.sto 8 (.t 13) (.t 84)),mV 14 85] (sR [fD 86 1 9,lA 87 2 86,oP 88 (.call 33 [.t 87]),mV 89 88,⟨some 90,some (89,true),.mv (.t 12)⟩,oP 91 (.pick (.t 89) (.t 90) (.c (.bool false))),mV 92 91,⟨some 93,some (92,true),.ld 2 true (.t 11)⟩,⟨some 94,some (92,true),.fad 1 (.t 4)⟩,⟨some 95,some (92,true),.ld 2 true (.t 94)⟩,⟨some 96,some (92,true),.eqs false [.i,.i] (.t 93) (.t 95)⟩,oP 97 (.pick (.t 92) (.t 96) (.c (.bool false))),mV 98 97,⟨some 99,some (98,true),.fad 3 (.t 9)⟩,⟨some 100,some (98,true),.ld 2 true (.t 99)⟩,⟨some 101,some (98,true),.fad 3 (.t 4)⟩,⟨some 102,some (98,true),.ld 2 true (.t 101)⟩,⟨some 103,some (98,true),.eqs false [.i,.i] (.t 100) (.t 102)⟩,oP 104 (.pick (.t 98) (.t 103) (.c (.bool false))),mV 105 104,⟨some 106,some (105,true),.fad 0 (.t 9)⟩,⟨some 107,some (105,true),.ld 1 false (.t 106)⟩,⟨some 108,some (105,true),.fad 0 (.t 4)⟩,⟨some 109,some (105,true),.ld 1 false (.t 108)⟩,⟨some 110,some (105,true),.bin .eql (.t 107) (.t 109)⟩,oP 111 (.pick (.t 105) (.t 110) (.c (.bool false))),mV 112 111,⟨some 113,some (112,true),.mv (.t 14)⟩,oP 114 (.pick (.t 112) (.t 113) (.c (.bool false))),mV 115 114,⟨some 116,some (115,true),.ld 2 true (.t 8)⟩,⟨some 117,some (115,true),.call 20 [.t 116]⟩,oP 118 (.pick (.t 115) (.t 117) (.c (.bool false))),mV 119 118,⟨some 120,some (119,true),.ld 7 true (.t 9)⟩,⟨some 121,some (119,true),.call 30 [.t 120]⟩,oP 122 (.pick (.t 119) (.t 121) (.c (.bool false))),mV 2 122] .ret))))))))
theorem dg6:Dg Tryz.prog 6 Tryz.f6 ic6 [(.t 2)]:=⟨Tryz.func6,by kernel_rfl,by kernel_rfl⟩
theorem c6 (code:B):FnR Tryz.prog G 6 [.sl 1 (code.map byR)] (.bool true):=by
  refine mF dg6 Tryz.ntmps6 ?_
  simp only [ic6,go_sem]
  by_cases hc:(1048576:Int)<code.length
  · simp only [eq_true hc,go_sem]
  simp only [eq_false hc,go_sem]
  refine callO (c16 code (by omega)) [] 20 0 (by simp only [go_sem];first|done|simp) (by simp) (by rintro _ _ ⟨_,_,_,_,_,rfl⟩;simp) (by intro i hi;omega) ?_
  rintro _ _ ⟨d,p,⟨hb,hl3,hq⟩,hpl,rfl,rfl⟩
  simp only [go_sem]
  have f1:=c17 d p hb (fun _=>hl3) (by omega)
  have f2:=c18 d p hb (by omega)
  have xb:=doorOut_db d p
  have hyes:=fun r (h:(doorOut d p).2=some r)=>doorOut_yes h
  obtain ⟨⟨x,o⟩,hx⟩:∃ y,doorOut d p=y:=⟨_,rfl⟩
  rw [hx] at f1 f2 xb hyes
  have f3:=l19 x xb
  simp only at f1 f2 f3 hyes xb
  cases o with
  | none =>
    simp only [Option.getD_none,Option.isSome_none] at f1 f2
    with_reducible repeat' (first|refine br ?_ ?_<;>intro h e<;>(try simp only [e,go_sem,dff])<;>clear e|rw [i64w (by omega)]|refine sd ?_<;>try simp only [go_sem,dff]|(first|refine cr (f1 ..) ?_|refine cr (f2 ..) ?_|refine cr (f3 ..) ?_)<;>try simp only [go_sem,dff]|fail)
  | some r =>
    obtain ⟨hd,hp,ho,hdx,hdo⟩:=hyes r rfl
    simp only [Option.getD_some,Option.isSome_some] at f1 f2
    obtain ⟨e1,e2,e3,e4,e5,e6,e7⟩:=law_outPort hd hq hp ho hdo
    have f4:=c28 x.map r.frm.p xb.1
    have f5:=c29 x p.frm p.to xb.2.1
    have f6:=c20 x xb
    have f7:=c30 r (by have:=(pkOk_P e7).len;omega)
    rw [e1] at f4
    rw [e5] at f5
    rw [hdx] at f6
    rw [e7] at f7
    simp only [rdV,Option.getD_some,Option.isSome_some] at f4
    simp only [e2,e3] at f7
    with_reducible repeat' (first|refine br ?_ ?_<;>intro h e<;>(try simp only [e,go_sem,dtt,e2,e3,e4])<;>clear e|rw [i64w (by omega)]|refine sd ?_<;>try simp only [go_sem,dtt,e2,e3,e4]|(first|refine cr (f1 ..) ?_|refine cr (f2 ..) ?_|refine cr (f3 ..) ?_|refine cr (f4 ..) ?_|refine cr (f5 ..) ?_|refine cr (c33 ..) ?_|refine cr (f6 ..) ?_|refine cr (f7 ..) ?_)<;>try simp only [go_sem,dtt,e2,e3,e4]|fail)
end Go.Proofs.YtfepdcpidkjklaaGreatDoor.W
namespace Go.Proofs.YtfepdcpidkjklaaGreatDoor.fnOutPort
open Go Go.ChangeShapes Go.WideShapes Go.ChangeAt Go.RowKit Go.Proofs.YtfepdcpidkjklaaGreatDoor.W
theorem walk (v0:Value) (W:World) (hs:W.ShapedOpen Tryz.prog) (hL:laidMetH Tryz.prog Rows.fnOutPortRow.laid W) (hv0:∃ code:M.B,VL.Den W noO noρ noH (.sl 1 (code.map M.byR)) v0) :
    Calls Tryz.prog 6 #[v0] W fun e W'=>e=.returned (.bool true)∧Below W.heap.size W W':=by
  obtain ⟨code,hdv0⟩:=hv0
  have:=Go.Proofs.YtfepdcpidkjklaaGreatDoor.W.FnR.calls (c6 code) (us:=[v0]) (gOk rfl hL hs) ⟨rfl,fun j a b ha hb=>by
    match j,ha,hb with
    | 0,ha,hb=>cases ha;cases hb;exact hdv0
    | j+1,ha,hb=>simp at ha⟩
  exact this
set_option maxRecDepth 100000 in
theorem contract (H:Type) (enc:TypeId × Value→H) (W:World) (base:Nat) (args:Array Value) (ds gs:List (DataW H)) (before:List MemPlace)
    (hval:∀ (j:Nat) t v,Tryz.f6.params[j]?=some t→args[j]?=some v→Value.okWide Tryz.prog W .any base t v)
    (hW:DataW.Whole enc Tryz.prog Tryz.f6.params.toList Rows.fnOutPortSpec.vars false W args.toList ds gs before) (hL:laidMetH Tryz.prog Rows.fnOutPortRow.laid W) (hs:W.ShapedOpen Tryz.prog) :
    Calls Tryz.prog 6 args W fun e W'=>∃ v,e=.returned v∧Rows.fnOutPortSpec.post enc Tryz.prog Tryz.f6 false true false false W args v W':=by
  have hW':=hW
  obtain ⟨p,q,hA0,hV,rfl,hfz,hnd⟩:=hW
  have hA:DataW.TrodAll enc Tryz.prog W 0 (fun _=>true) true Tryz.f6.params.toList args.toList ds p:=hA0
  rw [Tryz.params6] at hA hval
  obtain ⟨v0,r0s,d0,d0s,p0,q0,hargs0,rfl,rfl,h0,r0⟩:=trodAll_cons hA
  obtain ⟨e1,e2,e3⟩:=trodAll_nil r0
  subst e1 e2 e3
  obtain rfl:args=#[v0]:=by cases args;simp_all
  obtain ⟨rfl,rfl⟩:=trodVars_none hV
  obtain ⟨a0,len0,cap0,hv0⟩:=okWide_slice Tryz.underlying22 (hval 0 22 v0 rfl rfl)
  have k0:=h0
  have lt0:∀ x∈p0,x.block<W.heap.size:=by obtain ⟨m,hm⟩:=k0;exact DataW.trod_lt m _ _ _ hm
  have hc0:=open_code h0 ⟨a0,len0,cap0,hv0⟩
  clear hA0
  refine (walk v0 W hs hL hc0).mono fun e W' ⟨he,bel⟩=>?_
  subst he
  exact ⟨_,rfl,_,_,_,[],_,[],hW',trodAll_mk1 (shut_bool Tryz.underlying4 _),(trodAll_cons_mk (Below.trod laidOut (by kernel_rfl) (of_decide_eq_true (by kernel_rfl)) k0 bel lt0) trodAll_mk0),rfl,bel.frame _,fun h=>by cases h⟩
theorem inP:(Rows.fnOutPortRow.inPlace == Tryz.prog.inPlace 6)=true:=by kernel_rfl
theorem unf:(Rows.fnOutPortRow.unfollowed == Tryz.prog.unfollowed 6)=true:=by kernel_rfl
theorem rcs:(Rows.fnOutPortRow.recurses == Tryz.prog.recurses 6)=true:=by kernel_rfl
theorem nam:(Rows.fnOutPortRow.named == Tryz.prog.varsNamed 6)=true:=by kernel_rfl
theorem lif:(Rows.fnOutPortRow.lifted == Tryz.prog.liftsFinal)=true:=lifF
theorem pke:(Rows.fnOutPortRow.plainKeys == Tryz.prog.plainKeys)=true:=pkeF
theorem mak:(Tryz.prog.make == some Rows.fnOutPortRow.make)=true:=makF
theorem closed0:joinedFacts Tryz.prog 6 Tryz.f6 Rows.fnOutPortSpec Rows.fnOutPortRow=true:=by
  unfold joinedFacts
  rw [laidOut,mapF,inP,unf,rcs,nam,pke,stoF,mayF,lif,mak]
  kernel_rfl
theorem closed:joinedFacts Tryz.pinned.checked.prog 6 Tryz.f6 (OpenSpec.ofChange Rows.fnOutPortSpec).bare Rows.fnOutPortRow=true :=
  (show joinedFacts Tryz.pinned.checked.prog 6 Tryz.f6 (OpenSpec.ofChange Rows.fnOutPortSpec).bare Rows.fnOutPortRow=joinedFacts Tryz.prog 6 Tryz.f6 Rows.fnOutPortSpec Rows.fnOutPortRow by kernel_rfl).trans closed0
theorem door_met (os:Os) (args:Array Value):laidMetH Tryz.prog Rows.fnOutPortRow.laid ((World.doorLaid Tryz.prog 400 os).forCall (fun _ _=>0) ⟨#[],args,[]⟩).memory :=
  laidMetH_of_parts3 (fuel:=8) (laidMet_of_run' 8 (by kernel_rfl) (by kernel_rfl)) (by kernel_rfl) (by kernel_rfl)
theorem reads (os:Os) {H:Type} (enc:TypeId × Value→H):∃ places,DataW.whole enc Tryz.prog ((World.doorLaid Tryz.prog 400 os).forCall (fun _ _=>0) ⟨#[],#[.slice none 0 0],[]⟩).memory Tryz.f6.params.toList Rows.fnOutPortSpec.vars false #[Value.slice none 0 0].toList 8=some ([.nil],[],places) :=
  ⟨[],by kernel_rfl⟩
set_option maxRecDepth 100000 in
theorem lifted (os:Os) (started:os.Started) (H:Type) (enc:TypeId × Value→H) (F:Stop.Interp) :
    ReturnsInHanded {} Tryz.checked os 6 .any ((OpenSpec.ofChange Rows.fnOutPortSpec).preRow enc Tryz.prog Tryz.f6 Rows.fnOutPortRow.domain false Rows.fnOutPortRow.laid) (((OpenSpec.ofChange Rows.fnOutPortSpec).at F).post enc Tryz.prog Tryz.f6 false true false false):=by
  obtain ⟨places,hx⟩:=reads os enc
  refine returnsInHanded_of_row (C:=Tryz.checked) (s:=OpenSpec.ofChange Rows.fnOutPortSpec) own started (by kernel_rfl) Tryz.func6
    (witness_row_atRef (enc:=enc) (C:=Tryz.checked) false (World.doorLaid Tryz.prog 400 os) #[.slice none 0 0] rfl (by kernel_rfl) (by kernel_rfl) (by kernel_rfl)
      (OpenSpec.preRow_of_cond 8 hx (by kernel_rfl) (fun k hk=>by cases hk) (by kernel_rfl) (door_met os _))) ?_
  intro W base args ds gs before hval hW _ _ _ hL hs _
  exact contract H enc W base args ds gs before hval hW hL hs
theorem said:Rows.FnOutPortSaid :=
  OpenClaim.holds_of_cond 6 Tryz.f6 rfl rfl rfl rfl rfl rfl rfl ⟨rfl,rfl,rfl,rfl,rfl⟩ rfl rfl rfl rfl rfl (by kernel_rfl) Tryz.func6 closed
    (of_decide_eq_true (by kernel_rfl)) (by unfold Func.isWrapper;first|(rw [if_pos (by decide +kernel)];kernel_rfl)|(rw [if_neg (by decide +kernel)];exact ⟨rfl,rfl⟩))
    (fun os started H enc _ F=>by rw [OpenClaim.pre_eq_preRow];exact lifted os started H enc F)
theorem plain (f:FuncId) (fn:Func) (hf:Tryz.pinned.checked.prog.funcNamed "loop.example/ostiary/laws.FnOutPort"=some f) (hfn:Tryz.pinned.checked.prog.funcs[f]?=some fn) :
    true=Tryz.pinned.checked.prog.looks []∧∀ (j:Nat) t,fn.params[j]?=some t→Tryz.pinned.checked.prog.wantsStandIn t=false:=by
  obtain rfl:f=6:=Option.some.inj ((show Tryz.prog.funcNamed "loop.example/ostiary/laws.FnOutPort"=some 6 by kernel_rfl).symm.trans hf) |>.symm
  obtain rfl:fn=Tryz.f6:=(Option.some.inj (Tryz.func6.symm.trans hfn)).symm
  refine ⟨by kernel_rfl,fun j t ht=>?_⟩
  rw [Tryz.params6] at ht
  obtain rfl:t=22:=by simpa using Array.mem_of_getElem? ht
  exact (show Tryz.prog.wantsStandIn 22=false by kernel_rfl)
theorem card:Rows.FnOutPortCardSaid :=
  Claim7.holds_tied_plain_at .later [] _ _ _ _ said (fun _ h=>by cases h) (by kernel_rfl) (fun _ h=>by cases h) fnOutPort_row_tie rfl ⟨rfl,rfl⟩ (by kernel_rfl) rfl plain (by kernel_rfl)
end Go.Proofs.YtfepdcpidkjklaaGreatDoor.fnOutPort
