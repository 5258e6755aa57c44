/- FnExactLinesRun: the program's run of lines is the reference's. Conditions: those of the row alone. -/
import Derived.Test.YtiegngjdjheebaaGreatDoorX07
import Derived.Test.YtiegngjdjheebaaGreatDoorX04
import Derived.ChangeMaps5
import Derived.Lay
import Derived.Test.YtiegngjdjheebaaGreatDoorCards
import Derived.Test.YtiegngjdjheebaaGreatDoorTie
set_option linter.all false
namespace Go.Proofs.YtiegngjdjheebaaGreatDoor.W
open Go Go.RowKit Go.Proofs Go.Proofs.YtiegngjdjheebaaGreatDoor.VL Go.Proofs.YtiegngjdjheebaaGreatDoor.M
attribute [local congr] optK_congr guardK_congr condK_congr runT_congr runD_congr wpI_congr CallV_congr LoopI_congr pureK_congr effK_congr calK_congr stepV_congr doV_congr exN_congr exB_congr retF_congr retQ_congr gK_congr condW_congr ldK_congr stoK_congr
attribute [local go_sem] argL_cons argL_nil argH_nil argH_cons chH_getH wpI_seq wpI_reg wpI_drw wpI_ret cond_k condW_t condW_f wpI_skip wpI_block wpI_exit wpI_loop exN_n exN_r exN_e exB_n exB_r exB_h exB_m runT_k kT_e runT_nil runD_k kD_e runD_nil step_u step_k gK_t gK_f do_mv do_bino bo_add bo_sub bo_mul bo_subu bo_quo bo_rem bo_xor bo_eql bo_neq bo_lss bo_leq bo_gtr bo_geq bo_cat bo_eqs bo_nes do_pick do_call do_cal calK_f do_box do_alloc do_ldk ldK_s do_stok stoK_s do_fad do_nilc do_not do_neg do_len do_lens do_ext do_eqs do_beq do_isn do_cvi do_sls do_idx do_mn do_mx do_build do_mkf do_s2b do_b2s do_slv do_iad do_bsl do_mks do_app do_aps apsG_s ev_t ev_c app_some app_none
attribute [local go_sem] List.nil_append List.cons_append List.append_nil getL_hit getL_miss getH_nil getH_hit getH_miss nm_eq ne_eq Nat.reduceEqDiff not_false_eq_true Nat.reduceAdd Nat.add_zero Nat.zero_add if_true if_false ite_true ite_false pureK_s effK_s optK_s gdV_t gdV_f gdV_s pick_b ge_iff_le gt_iff_lt cond_true cond_false fresh_k cells_agg cells_int cells_bool cells_str cells_own cells_sl cells_nils ld_pv ld_pa ld_ip ldVar_t ldVar_f ldArr_t ldArr_f ldRow_t ldRow_f ldA_s ld1_s fad_pv fad_pa fad_ip nilc_pv nilc_pa nilc_ip not_b neg_i cvi_i ext_t retF_n retF_r
attribute [local go_sem] resV_k rvs_nil rvs_t rvs_c fstO_s consO_s resK_s resL_1 resL_2 resL_3 resL_4  Option.some.injEq List.map_cons List.map_nil List.all_cons List.all_nil Bool.and_true Bool.and_self Bool.not_true Bool.not_false Option.map_some Option.map_none sls_s slsG_s loV_n loV_i hiV_n hiV_i idx_s mn_i mx_i s2b_s b2s_s bytO_s bytes_nil bytes_cons conB_s slv_sl slv_own slv_nils slvG_s slvN_s slvO_s iad_sl iadG_map take_map drop_map List.length_map iad_own iad_view iadO_a iadW_a mks_i rowO_nils rowO_sl rowO_own rowA_a eq_self appG_nils appG_own appO_a guardP_T mapA_s bld_nil mkf_nil bldF_e fill_nil fill_cons mkf_e lens_s len_nils len_sl len_own len_view isn_nile isn_erre List.getElem?_cons_zero List.getElem?_cons_succ List.length_cons List.length_nil decide_true decide_false Int.toNat_natCast Int.cast_ofNat_Int Int.reduceLT Int.reduceLE Int.reduceEq Int.reduceAdd Int.reduceSub Int.reduceMul Int.reduceNeg Int.reduceToNat List.getD_cons_zero List.getD_cons_succ not_true_eq_false not_false_eq_true Bool.false_eq_true Bool.true_eq_false reduceCtorEq
attribute [local go_sem] E.row Pc.row Pair.row Part.row Strm.row Flw.row Pk.row Door.row Conv.row World.row Ev.row rdV E.eta Pc.eta Pair.eta Part.eta Strm.eta Pk.eta Flw.eta Conv.eta Door.eta World.eta Ev.eta
attribute [local go_sem] sub_ok st_pv st_pa stVar_v stArr_a Nat.le_refl List.drop_zero List.drop_succ_cons List.take_succ_cons List.take_zero setR Nat.reduceLeDiff
attribute [local go_sem] wk_bot wk2_bot wk1_bot wk_undef wk_tup_e wk2_agg_e wk_agg_e wk1_fn_e wk2_fn_e wk_fn_e wkl_nil wkl_cons wkh_var_e wkh_arr_e wkh_fresh_e wkh_dead_v wkh_dead_a wkh_dead_d wk0_undef wk0_int wk0_bool wk0_str wk0_nils wk0_nils_sl wk0_nilp wk0_nile wk0_erre wk0_sl wk0_iptr wk0_own wk0_view wk0_pv wk0_pa fzA_a fzW_a fzP_v wk0_own_sl wk0_view_sl wk0_pv_iptr WkS_nil WkS_cons WkN_nil WkN_cons nonB_nil nonB_cons getN_nil getN_hit getN_miss pinOk_0 pinOk_s and_true true_and and_self
attribute [local go_sem] bot_int one_int unt_int clo_int bot_bool one_bool unt_bool clo_bool bot_str one_str unt_str clo_str bot_nils one_nils unt_nils clo_nils bot_nilp one_nilp unt_nilp clo_nilp bot_nile one_nile unt_nile clo_nile bot_erre one_erre unt_erre clo_erre bot_raw one_raw unt_raw clo_raw bot_sl one_sl unt_sl clo_sl bot_own one_own unt_own clo_own bot_view one_view unt_view clo_view bot_pv one_pv unt_pv clo_pv bot_pa one_pa unt_pa clo_pa bot_iptr one_iptr unt_iptr clo_iptr unt_agg unt_fn one_fn
attribute [local go_sem] rn_tup rn_agg rn2_agg rn_fn rn2_fn rnfn1 rn_bot rn2_bot rn1_bot rn0_int rn0_bool rn0_str rn0_nils rn0_nilp rn0_nile rn0_erre rn0_sl rn0_iptr rn0_own rn0_view rn0_pv rn0_pa hrn_var hrn_arr hrn_dead outU_nil outU_cons deads_nil deads_cons bk_ge bk_lt nsF_0 nsF_s chH_0 chH_s chH_n newN_e andB_s eqR_nil eqR_i eqR_b eqR_s mapX_f mapX_t eqs_a beq_f beq_t live_arr live_var nsl_nil nsl_cons Nat.reduceMul Nat.reduceLT Nat.zero_le Nat.not_lt_zero
attribute [local go_sem] mV lD lA fD bN eX oP nP sR i0 s0
def ic4:IC:=sR [oP 6 (.mv (.c (.bool false)))] (.seq (sR [mV 9 0,oP 10 (.lens (.t 9)),oP 11 (.bin .gtr (.t 10) (.c (.int .i64 1048576)))] (.cond (.t 11) (sR [oP 6 (.mv (.c (.bool true)))] .ret) .skip)) (.seq (sR [mV 12 1,oP 13 (.lens (.t 12)),oP 14 (.bin .gtr (.t 13) (.c (.int .i64 1048576)))] (.cond (.t 14) (sR [oP 6 (.mv (.c (.bool true)))] .ret) .skip)) (.seq (sR [mV 15 2,oP 16 (.lens (.t 15)),oP 17 (.bin .gtr (.t 16) (.c (.int .i64 1048576)))] (.cond (.t 17) (sR [oP 6 (.mv (.c (.bool true)))] .ret) .skip)) (sR [mV 18 0,mV 19 1,mV 20 2,oP 21 (.call 16 [.t 18,.t 19,.t 20]),mV 7 21] (sR [mV 22 0,mV 23 1,mV 24 2,oP 25 (.call 15 [.t 22,.t 23,.t 24]),mV 8 25] (.seq (sR [mV 26 8,mV 27 7,bN 28 .neq 26 27] (.cond (.t 28) (sR [oP 6 (.mv (.c (.bool false)))] .ret) .skip)) (sR [oP 6 (.mv (.c (.bool true)))] .ret)))))))
theorem dg4:Dg Tryz.prog 4 Tryz.f4 ic4 [(.t 6)]:=⟨Tryz.func4,by kernel_rfl,by kernel_rfl⟩
theorem c4 (up down text:B):FnR Tryz.prog G 4 [.str up,.str down,.str text] (.bool true):=by
 refine mF dg4 Tryz.ntmps4 ?_
 simp only[ic4,go_sem]
 by_cases h1:(1048576:Int)<up.length
 ·simp only[eq_true h1,go_sem]
 simp only[eq_false h1,go_sem]
 by_cases h2:(1048576:Int)<down.length
 ·simp only[eq_true h2,go_sem]
 simp only[eq_false h2,go_sem]
 by_cases h3:(1048576:Int)<text.length
 ·simp only[eq_true h3,go_sem]
 simp only[eq_false h3,go_sem]
 have f1:=c15 up down text (by omega) (by omega) (by omega)
 have f2:=c16 up down text (by omega) (by omega) (by omega)
 generalize linesRun up down text=s at *
 with_reducible repeat' (first|refine br ?_ ?_<;>intro h e<;>(try simp only[e,go_sem])<;>clear e|rw[i64w (by omega)]|refine sd ?_<;>try simp only[go_sem]|(first|refine cr (f1 ..) ?_|refine cr (f2 ..) ?_)<;>try simp only[go_sem]|fail)
end Go.Proofs.YtiegngjdjheebaaGreatDoor.W
namespace Go.Proofs.YtiegngjdjheebaaGreatDoor.fnExactLinesRun
open Go Go.ChangeShapes Go.WideShapes Go.ChangeAt Go.RowKit Go.Proofs.YtiegngjdjheebaaGreatDoor.W
theorem open_text {H:Type} {enc:TypeId×Value→H} {P:Program} {W:World} {r:Reach} {b0:Nat} {t:TypeId} (ht:P.underlying t=some .string) {v:Value} {d:DataW H} {ps:List MemPlace} (hval:Value.okWide P W r b0 t v) (h:DataW.Trod enc P W 0 (fun _=>true) true t v d ps):∃code:M.B,VL.Den W noO noρ noH (.str code) v:=by
 obtain⟨s,hs,_,_,_⟩:=Go.ChangeMaps.open_string ht hval h
 refine⟨s.data.toList, ?_⟩
 have:=VL.Imm.str (w:=W) (O:=noO) s.data.toList
 rw[VL.mkStr_data s,←hs] at this
 exact this
theorem walk (v0 v1 v2:Value) (W:World) (hs:W.ShapedOpen Tryz.prog) (hL:laidMetH Tryz.prog Rows.fnExactLinesRunRow.laid W) (hv0:∃code:M.B,VL.Den W noO noρ noH (.str code) v0) (hv1:∃code:M.B,VL.Den W noO noρ noH (.str code) v1) (hv2:∃code:M.B,VL.Den W noO noρ noH (.str code) v2) :
 Calls Tryz.prog 4 #[v0,v1,v2] W fun e W'=>e=.returned (.bool true)∧Below W.heap.size W W':=by
 obtain⟨code,hdv0⟩:=hv0
 obtain⟨more,hdv1⟩:=hv1
 obtain⟨most,hdv2⟩:=hv2
 have:=Go.Proofs.YtiegngjdjheebaaGreatDoor.W.FnR.calls (c4 code more most) (us:=[v0,v1,v2]) (gOk rfl hL hs) ⟨rfl,fun j a b ha hb=>by
  match j,ha,hb with
  | 0,ha,hb=>cases ha;cases hb;exact hdv0
  | 1,ha,hb=>cases ha;cases hb;exact hdv1
  | 2,ha,hb=>cases ha;cases hb;exact hdv2
  | j+3,ha,hb=>simp at ha⟩
 exact this
set_option maxRecDepth 100000 in
theorem contract (H:Type) (enc:TypeId×Value→H) (W:World) (base:Nat) (args:Array Value) (ds gs:List (DataW H)) (before:List MemPlace)
 (hval:∀(j:Nat) t v,Tryz.f4.params[j]?=some t→args[j]?=some v→Value.okWide Tryz.prog W .any base t v)
 (hW:DataW.Whole enc Tryz.prog Tryz.f4.params.toList Rows.fnExactLinesRunSpec.vars false W args.toList ds gs before) (hL:laidMetH Tryz.prog Rows.fnExactLinesRunRow.laid W) (hs:W.ShapedOpen Tryz.prog) :
 Calls Tryz.prog 4 args W fun e W'=>∃v,e=.returned v∧Rows.fnExactLinesRunSpec.post enc Tryz.prog Tryz.f4 false true false false W args v W':=by
 have hW':=hW
 obtain⟨p,q,hA0,hV,rfl,hfz,hnd⟩:=hW
 have hA:DataW.TrodAll enc Tryz.prog W 0 (fun _=>true) true Tryz.f4.params.toList args.toList ds p:=hA0
 rw[Tryz.params4] at hA hval
 obtain⟨v0,r0s,d0,d0s,p0,q0,hargs0,rfl,rfl,h0,r0⟩:=trodAll_cons hA
 obtain⟨v1,r1s,d1,d1s,p1,q1,hargs1,rfl,rfl,h1,r1⟩:=trodAll_cons r0
 obtain⟨v2,r2s,d2,d2s,p2,q2,hargs2,rfl,rfl,h2,r2⟩:=trodAll_cons r1
 obtain⟨e1,e2,e3⟩:=trodAll_nil r2
 subst e1 e2 e3
 obtain rfl:args=#[v0,v1,v2]:=by cases args;simp_all
 obtain⟨rfl,rfl⟩:=trodVars_none hV
 have hc0:=open_text Tryz.underlying9 (hval 0 9 v0 rfl rfl) h0
 have k0:=h0
 have lt0:∀x∈p0,x.block<W.heap.size:=by obtain⟨m,hm⟩:=k0;exact DataW.trod_lt m _ _ _ hm
 have hc1:=open_text Tryz.underlying9 (hval 1 9 v1 rfl rfl) h1
 have k1:=h1
 have lt1:∀x∈p1,x.block<W.heap.size:=by obtain⟨m,hm⟩:=k1;exact DataW.trod_lt m _ _ _ hm
 have hc2:=open_text Tryz.underlying9 (hval 2 9 v2 rfl rfl) h2
 have k2:=h2
 have lt2:∀x∈p2,x.block<W.heap.size:=by obtain⟨m,hm⟩:=k2;exact DataW.trod_lt m _ _ _ hm
 clear hA0
 refine(walk v0 v1 v2 W hs hL hc0 hc1 hc2).mono fun e W' ⟨he,bel⟩=>?_
 subst he
 exact⟨_,rfl,_,_,_,[],_,[],hW',trodAll_mk1 (shut_bool Tryz.underlying4 _),(trodAll_cons_mk (Below.trod laidOut (by kernel_rfl) (of_decide_eq_true (by kernel_rfl)) k0 bel lt0) (trodAll_cons_mk (Below.trod laidOut (by kernel_rfl) (of_decide_eq_true (by kernel_rfl)) k1 bel lt1) (trodAll_cons_mk (Below.trod laidOut (by kernel_rfl) (of_decide_eq_true (by kernel_rfl)) k2 bel lt2) trodAll_mk0))),rfl,bel.frame _,fun h=>by cases h⟩
theorem inP:(Rows.fnExactLinesRunRow.inPlace==Tryz.prog.inPlace 4)=true:=by kernel_rfl
theorem unf:(Rows.fnExactLinesRunRow.unfollowed==Tryz.prog.unfollowed 4)=true:=by kernel_rfl
theorem rcs:(Rows.fnExactLinesRunRow.recurses==Tryz.prog.recurses 4)=true:=by kernel_rfl
theorem nam:(Rows.fnExactLinesRunRow.named==Tryz.prog.varsNamed 4)=true:=by kernel_rfl
theorem lif:(Rows.fnExactLinesRunRow.lifted==Tryz.prog.liftsFinal)=true:=lifF
theorem pke:(Rows.fnExactLinesRunRow.plainKeys==Tryz.prog.plainKeys)=true:=pkeF
theorem mak:(Tryz.prog.make==some Rows.fnExactLinesRunRow.make)=true:=makF
theorem closed0:joinedFacts Tryz.prog 4 Tryz.f4 Rows.fnExactLinesRunSpec Rows.fnExactLinesRunRow=true:=by
 unfold joinedFacts
 rw[laidOut,mapF,inP,unf,rcs,nam,pke,stoF,mayF,lif,mak]
 kernel_rfl
theorem closed:joinedFacts Tryz.pinned.checked.prog 4 Tryz.f4 (OpenSpec.ofChange Rows.fnExactLinesRunSpec).bare Rows.fnExactLinesRunRow=true :=
 (show joinedFacts Tryz.pinned.checked.prog 4 Tryz.f4 (OpenSpec.ofChange Rows.fnExactLinesRunSpec).bare Rows.fnExactLinesRunRow=joinedFacts Tryz.prog 4 Tryz.f4 Rows.fnExactLinesRunSpec Rows.fnExactLinesRunRow by kernel_rfl).trans closed0
theorem door_met (os:Os) (args:Array Value):laidMetH Tryz.prog Rows.fnExactLinesRunRow.laid ((World.laidAll Tryz.prog os Rows.fnExactLinesRunRow.laid).forCall (fun _ _=>0) ⟨#[],args,[]⟩).memory :=
 by rw[MakeChecks.laidMetH_plain _ _ _ (by kernel_rfl)];exact laidMet_laidAll _ (by kernel_rfl) (by kernel_rfl)
theorem reads (os:Os) {H:Type} (enc:TypeId×Value→H):∃places,DataW.whole enc Tryz.prog ((World.laidAll Tryz.prog os Rows.fnExactLinesRunRow.laid).forCall (fun _ _=>0) ⟨#[],#[.string ⟨#[]⟩,.string ⟨#[]⟩,.string ⟨#[]⟩],[]⟩).memory Tryz.f4.params.toList Rows.fnExactLinesRunSpec.vars false #[Value.string ⟨#[]⟩,Value.string ⟨#[]⟩,Value.string ⟨#[]⟩].toList 8=some ([.lit (.string []),.lit (.string []),.lit (.string [])],[],places) :=
 ⟨[],by kernel_rfl⟩
set_option maxRecDepth 100000 in
theorem lifted (os:Os) (started:os.Started) (H:Type) (enc:TypeId×Value→H) (F:Stop.Interp) :
 ReturnsInHanded {} Tryz.checked os 4 .any ((OpenSpec.ofChange Rows.fnExactLinesRunSpec).preRow enc Tryz.prog Tryz.f4 Rows.fnExactLinesRunRow.domain false Rows.fnExactLinesRunRow.laid) (((OpenSpec.ofChange Rows.fnExactLinesRunSpec).at F).post enc Tryz.prog Tryz.f4 false true false false):=by
 obtain⟨places,hx⟩:=reads os enc
 refine returnsInHanded_of_row (C:=Tryz.checked) (s:=OpenSpec.ofChange Rows.fnExactLinesRunSpec) own started (by kernel_rfl) Tryz.func4
  (witnessZip (enc:=enc) (C:=Tryz.checked) (World.laidAll Tryz.prog os Rows.fnExactLinesRunRow.laid) #[.string ⟨#[]⟩,.string ⟨#[]⟩,.string ⟨#[]⟩] (World.laidAll_os _ _ _) (World.shaped_of_ZipB (by kernel_rfl) (by kernel_rfl)) (by kernel_rfl)
    (OpenSpec.preRow_of_cond 8 hx (by kernel_rfl) (fun k hk=>by cases hk) (by kernel_rfl) (door_met os _))) ?_
 intro W base args ds gs before hval hW _ _ _ hL hs _
 exact contract H enc W base args ds gs before hval hW hL hs
theorem said:Rows.FnExactLinesRunSaid :=
 OpenClaim.holds_of_cond 4 Tryz.f4 rfl rfl rfl rfl rfl rfl rfl ⟨rfl,rfl,rfl,rfl,rfl⟩ rfl rfl rfl rfl rfl (by kernel_rfl) Tryz.func4 closed
  (of_decide_eq_true (by kernel_rfl)) (by unfold Func.isWrapper;first|(rw[if_pos (by decide +kernel)];kernel_rfl)|(rw[if_neg (by decide +kernel)];exact⟨rfl,rfl⟩))
  (fun os started H enc _ F=>by rw[OpenClaim.pre_eq_preRow];exact lifted os started H enc F)
theorem plain (f:FuncId) (fn:Func) (hf:Tryz.pinned.checked.prog.funcNamed "loop.example/ostiary/laws.FnExactLinesRun"=some f) (hfn:Tryz.pinned.checked.prog.funcs[f]?=some fn) :
 true=Tryz.pinned.checked.prog.looks []∧∀(j:Nat) t,fn.params[j]?=some t→Tryz.pinned.checked.prog.wantsStandIn t=false:=by
 obtain rfl:f=4:=Option.some.inj ((show Tryz.prog.funcNamed "loop.example/ostiary/laws.FnExactLinesRun"=some 4 by kernel_rfl).symm.trans hf) |>.symm
 obtain rfl:fn=Tryz.f4:=(Option.some.inj (Tryz.func4.symm.trans hfn)).symm
 refine⟨by kernel_rfl,fun j t ht=>?_⟩
 rw[Tryz.params4] at ht
 obtain rfl:t=9:=by simpa using Array.mem_of_getElem? ht
 exact(show Tryz.prog.wantsStandIn 9=false by kernel_rfl)
theorem card:Rows.FnExactLinesRunCardSaid :=
 Claim7.holds_tied_plain_at .later [] _ _ _ _ said (fun _ h=>by cases h) (by kernel_rfl) (fun _ h=>by cases h) fnExactLinesRun_row_tie rfl ⟨rfl,rfl⟩ (by kernel_rfl) rfl plain (by kernel_rfl)
end Go.Proofs.YtiegngjdjheebaaGreatDoor.fnExactLinesRun
