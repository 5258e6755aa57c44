/- FnWorldStill: behind a calm nothing more happens. Conditions: those of the row alone. -/
import Derived.Test.YtgganfobejnfaaaGreatDoorX07
import Derived.Test.YtgganfobejnfaaaGreatDoorX04
import Derived.Test.YtgganfobejnfaaaGreatDoorCards
import Derived.Test.YtgganfobejnfaaaGreatDoorTie
set_option linter.all false
namespace Go.Proofs.YtgganfobejnfaaaGreatDoor.W
open Go Go.RowKit Go.Proofs Go.Proofs.YtgganfobejnfaaaGreatDoor.VL Go.Proofs.YtgganfobejnfaaaGreatDoor.M
attribute [local congr] optK_congr guardK_congr condK_congr runT_congr runD_congr wpI_congr CallV_congr LoopI_congr pureK_congr effK_congr calK_congr stepV_congr doV_congr exN_congr exB_congr retF_congr retQ_congr gK_congr condW_congr ldK_congr stoK_congr
attribute [local go_sem] argL_cons argL_nil argH_nil argH_cons chH_getH wpI_seq wpI_reg wpI_drw wpI_ret cond_k condW_t condW_f wpI_skip wpI_block wpI_exit wpI_loop exN_n exN_r exN_e exB_n exB_r exB_h exB_m runT_k kT_e runT_nil runD_k kD_e runD_nil step_u step_k gK_t gK_f do_mv do_bino bo_add bo_sub bo_mul bo_subu bo_quo bo_rem bo_xor bo_eql bo_neq bo_lss bo_leq bo_gtr bo_geq bo_cat bo_eqs bo_nes do_pick do_call do_cal calK_f do_box do_alloc do_ldk ldK_s do_stok stoK_s do_fad do_nilc do_not do_neg do_len do_lens do_ext do_eqs do_beq do_isn do_cvi do_sls do_idx do_mn do_mx do_build do_mkf do_s2b do_b2s do_slv do_iad do_bsl do_mks do_app ev_t ev_c app_some app_none
attribute [local go_sem] List.nil_append List.cons_append List.append_nil getL_hit getL_miss getH_nil getH_hit getH_miss nm_eq ne_eq Nat.reduceEqDiff not_false_eq_true Nat.reduceAdd Nat.add_zero Nat.zero_add if_true if_false ite_true ite_false pureK_s effK_s optK_s gdV_t gdV_f gdV_s pick_b ge_iff_le gt_iff_lt cond_true cond_false fresh_k cells_agg cells_int cells_bool cells_str cells_own cells_sl cells_nils ld_pv ld_pa ld_ip ldVar_t ldVar_f ldArr_t ldArr_f ldRow_t ldRow_f ldA_s ld1_s fad_pv fad_pa fad_ip nilc_pv nilc_pa nilc_ip not_b neg_i cvi_i ext_t retF_n retF_r
attribute [local go_sem] resV_k rvs_nil rvs_t rvs_c fstO_s consO_s resK_s resL_1 resL_2 resL_3 resL_4  Option.some.injEq List.map_cons List.map_nil List.all_cons List.all_nil Bool.and_true Bool.and_self Bool.not_true Bool.not_false Option.map_some Option.map_none sls_s slsG_s loV_n loV_i hiV_n hiV_i idx_s mn_i mx_i s2b_s b2s_s bytO_s bytes_nil bytes_cons conB_s slv_sl slv_own slv_nils slvG_s slvN_s slvO_s iad_sl iadG_map take_map drop_map List.length_map iad_own iad_view iadO_a iadW_a mks_i rowO_nils rowO_sl rowO_own rowA_a eq_self appG_nils appG_own appO_a guardP_T mapA_s bld_nil mkf_nil bldF_e fill_nil fill_cons mkf_e lens_s len_nils len_sl len_own len_view isn_nile isn_erre List.getElem?_cons_zero List.getElem?_cons_succ List.length_cons List.length_nil decide_true decide_false Int.toNat_natCast Int.cast_ofNat_Int Int.reduceLT Int.reduceLE Int.reduceEq Int.reduceAdd Int.reduceSub Int.reduceMul Int.reduceNeg Int.reduceToNat List.getD_cons_zero List.getD_cons_succ not_true_eq_false not_false_eq_true Bool.false_eq_true Bool.true_eq_false reduceCtorEq
attribute [local go_sem] E.row Pc.row Pair.row Part.row Strm.row Flw.row Pk.row Door.row Conv.row World.row Ev.row rdV E.eta Pc.eta Pair.eta Part.eta Strm.eta Pk.eta Flw.eta Conv.eta Door.eta World.eta Ev.eta
attribute [local go_sem] sub_ok st_pv st_pa stVar_v stArr_a Nat.le_refl List.drop_zero List.drop_succ_cons List.take_succ_cons List.take_zero setR Nat.reduceLeDiff
attribute [local go_sem] wk_bot wk2_bot wk1_bot wk_undef wk_tup_e wk2_agg_e wk_agg_e wk1_fn_e wk2_fn_e wk_fn_e wkl_nil wkl_cons wkh_var_e wkh_arr_e wkh_fresh_e wkh_dead_v wkh_dead_a wkh_dead_d wk0_undef wk0_int wk0_bool wk0_str wk0_nils wk0_nils_sl wk0_nilp wk0_nile wk0_erre wk0_sl wk0_iptr wk0_own wk0_view wk0_pv wk0_pa fzA_a fzW_a fzP_v wk0_own_sl wk0_view_sl wk0_pv_iptr WkS_nil WkS_cons WkN_nil WkN_cons nonB_nil nonB_cons getN_nil getN_hit getN_miss pinOk_0 pinOk_s and_true true_and and_self
attribute [local go_sem] bot_int one_int unt_int clo_int bot_bool one_bool unt_bool clo_bool bot_str one_str unt_str clo_str bot_nils one_nils unt_nils clo_nils bot_nilp one_nilp unt_nilp clo_nilp bot_nile one_nile unt_nile clo_nile bot_erre one_erre unt_erre clo_erre bot_raw one_raw unt_raw clo_raw bot_sl one_sl unt_sl clo_sl bot_own one_own unt_own clo_own bot_view one_view unt_view clo_view bot_pv one_pv unt_pv clo_pv bot_pa one_pa unt_pa clo_pa bot_iptr one_iptr unt_iptr clo_iptr unt_agg unt_fn one_fn
attribute [local go_sem] rn_tup rn_agg rn2_agg rn_fn rn2_fn rnfn1 rn_bot rn2_bot rn1_bot rn0_int rn0_bool rn0_str rn0_nils rn0_nilp rn0_nile rn0_erre rn0_sl rn0_iptr rn0_own rn0_view rn0_pv rn0_pa hrn_var hrn_arr hrn_dead outU_nil outU_cons deads_nil deads_cons bk_ge bk_lt nsF_0 nsF_s chH_0 chH_s chH_n newN_e andB_s eqR_nil eqR_i eqR_b eqR_s mapX_f mapX_t eqs_a beq_f beq_t live_arr live_var nsl_nil nsl_cons Nat.reduceMul Nat.reduceLT Nat.zero_le Nat.not_lt_zero
attribute [local go_sem] mV lD lA fD bN eX oP nP sR i0 s0
def ic11:IC:=sR [oP 4 (.mv (.c (.bool false)))] (.seq (sR [mV 12 0,oP 13 (.len (.t 12)),oP 14 (.bin .gtr (.t 13) (.c (.int .i64 1048576))),mV 15 14,⟨some 16,some (15,false),.mv (.t 1)⟩,⟨some 17,some (15,false),.len (.t 16)⟩,⟨some 18,some (15,false),.bin .gtr (.t 17) (.c (.int .i64 1048576))⟩,oP 19 (.pick (.t 15) (.c (.bool true)) (.t 18))] (.cond (.t 19) (sR [oP 4 (.mv (.c (.bool true)))] .ret) .skip)) (sR [mV 21 0,oP 22 (.call 15 [.t 21]),mV 20 22,eX 23 20 0,eX 24 20 1,mV 5 23,mV 6 24] (sR [mV 26 5,mV 27 6,oP 28 (.call 16 [.t 26,.t 27]),mV 25 28,eX 29 25 0,eX 30 25 1,oP 7 (.alloc 33 [.nils,.nils,.nils,.nils]),nP (.sto 4 (.t 7) (.t 29)),mV 8 30] (sR [mV 32 5,mV 33 6,oP 34 (.call 17 [.t 32,.t 33]),mV 31 34,eX 35 31 0,eX 36 31 1,oP 9 (.alloc 33 [.nils,.nils,.nils,.nils]),nP (.sto 4 (.t 9) (.t 35)),mV 10 36] (.seq (sR [mV 37 8,mV 38 10,oP 39 (.beq true (.t 37) (.t 38)),mV 40 39,⟨some 41,some (40,false),.ld 4 true (.t 7)⟩,⟨some 42,some (40,false),.ld 4 true (.t 9)⟩,⟨some 43,some (40,false),.call 18 [.t 41,.t 42]⟩,⟨some 44,some (40,false),.un .not (.t 43)⟩,oP 45 (.pick (.t 40) (.c (.bool true)) (.t 44)),mV 46 45,⟨some 47,some (46,false),.mv (.t 8)⟩,⟨some 48,some (46,false),.un .not (.t 47)⟩,oP 49 (.pick (.t 46) (.c (.bool true)) (.t 48))] (.cond (.t 49) (sR [mV 50 8,mV 51 10,oP 52 (.beq false (.t 50) (.t 51)),mV 53 52,⟨some 54,some (53,true),.ld 4 true (.t 7)⟩,⟨some 55,some (53,true),.ld 4 true (.t 9)⟩,⟨some 56,some (53,true),.call 18 [.t 54,.t 55]⟩,oP 57 (.pick (.t 53) (.t 56) (.c (.bool false))),mV 4 57] .ret) .skip)) (sR [lA 58 4 7,oP 59 (.call 31 [.t 58,.c (.int .i64 6)]),oP 11 (.alloc 33 [.nils,.nils,.nils,.nils]),nP (.sto 4 (.t 11) (.t 59))] (.seq (.drw [0,1,3,7,15,15,47,111,255,15,1023,2047,4095] [(0,lA 60 4 11),(1,oP 61 (.call 32 [.t 60])),(2,oP 62 (.un .not (.t 61))),(3,mV 63 62),(4,⟨some 64,some (63,false),.ld 4 true (.t 11)⟩),(5,⟨some 65,some (63,false),.mv (.t 1)⟩),(6,⟨some 66,some (63,false),.len (.t 65)⟩),(7,⟨some 67,some (63,false),.bin .rem (.t 66) (.c (.int .i64 7))⟩),(8,⟨some 68,some (63,false),.call 31 [.t 64,.t 67]⟩),(9,⟨some 69,some (63,false),.ld 4 true (.t 11)⟩),(10,⟨some 70,some (63,false),.call 18 [.t 68,.t 69]⟩),(11,oP 71 (.pick (.t 63) (.c (.bool true)) (.t 70))),(12,mV 4 71)]) .ret)))))))
theorem dg11:Dg Tryz.prog 11 Tryz.f11 ic11 [(.t 4)]:=⟨Tryz.func11,by kernel_rfl,by kernel_rfl⟩
theorem c11 (code more:B):FnR Tryz.prog G 11 [.sl 1 (code.map byR),.sl 1 (more.map byR)] (.bool true):=by
  refine mF dg11 Tryz.ntmps11 ?_
  simp only [ic11,go_sem]
  by_cases hc:(1048576:Int)<code.length
  · simp only [eq_true hc,go_sem]
  simp only [eq_false hc,go_sem]
  by_cases hm:(1048576:Int)<more.length
  · simp only [eq_true hm,go_sem]
  simp only [eq_false hm,go_sem]
  refine callO (c15 code (by omega)) [] 22 0 (by simp only [go_sem];first|done|simp) (by simp) (by rintro _ _ ⟨_,_,_,_,_,rfl⟩;simp) (by intro i hi;omega) ?_
  rintro _ _ ⟨cs,es,⟨⟨hc1,hc2⟩,hcB⟩,⟨he1,heB⟩,rfl,rfl⟩
  simp only [go_sem]
  have fi:∀ es':List Ev,es'.length≤es.length→(∀ e∈es',e∈es)→_:=fun es' h1 h2=>c16 cs es' (by omega) (fun c h=>by have:=hcB c h;omega) (by omega) (fun e h=>by have:=heB e (h2 e h);omega)
  have f1:=fi es (Nat.le_refl _) fun e h=>h
  with_reducible repeat' (first|refine br ?_ ?_<;>intro h e<;>(try simp only [e,go_sem])<;>clear e|rw [i64w (by omega)]|refine sd ?_<;>try simp only [go_sem]|(first|refine cr (f1 ..) ?_)<;>try simp only [go_sem]|fail)
  refine callO (c17 cs es (by omega) (fun c h=>by have:=hcB c h;omega) (by omega) (fun e h=>by have:=heB e h;omega)) [] 34 4 (by simp only [go_sem];first|done|simp) (by simp) (by rintro _ _ (⟨w,_,rfl,rfl⟩|⟨_,rfl,rfl⟩)<;>simp) (by intro i hi;rcases (show i=0∨i=1∨i=2∨i=3 by omega) with rfl|rfl|rfl|rfl<;>simp only [go_sem]) ?_
  rintro _ _ (⟨w,hw,rfl,rfl⟩|⟨hw,rfl,rfl⟩)
  · rw [hw]
    have hwi:=play_wi hw
    have hcl:=hwi.cl
    have hnl:=hwi.nl
    simp only [go_sem,Option.isSome_some,Option.getD_some,btt]
    with_reducible repeat' (first|refine br ?_ ?_<;>intro h e<;>(try simp only [e,go_sem,btt])<;>clear e|rw [i64w (by omega)]|refine sd ?_<;>try simp only [go_sem,btt]|fail)
    refine callF (c18 w (wi_wb hwi)) [103400,103401,103402,103403] false (by simp only [go_sem];first|done|simp [E.row,Pc.row,Pair.row,Part.row,Flw.row,Pk.row,Conv.row]) (by simp only [List.mem_cons,List.not_mem_nil,or_false];rintro c (rfl|rfl|rfl|rfl)<;>simp only [go_sem]) rfl (.inr rfl) ?_
    simp only [go_sem]
    have sw:=play_calm hw
    have s6:=sw.rounds calm_step 6
    obtain ⟨k,hk,hk7⟩:=tmod_nat more.length 7 (by decide)
    rw [show ((7:Nat):Int)=7 from rfl] at hk
    have fc:=c631 w hwi (si_ok sw)
    have fp:=c32 (rounds 6 w)
    by_cases hm:((rounds 6 w).door.map.length:Int)≤7
    · rw [decide_eq_true hm] at fp
      have f2:=c31 (rounds 6 w) k (by omega) s6.wi (si_ok s6)
      have fz:=c18 (rounds 6 w) (wi_wb s6.wi)
      rw [law_still sw k (by omega)] at f2
      generalize rounds 6 w=x at *
      with_reducible repeat' (first|refine br ?_ ?_<;>intro h e<;>(try simp only [e,go_sem,hk])<;>clear e|rw [i64w (by omega)]|refine sd ?_<;>try simp only [go_sem,hk]|(first|refine cr (fc ..) ?_|refine cr (fp ..) ?_|refine cr (f2 ..) ?_|refine cr (fz ..) ?_)<;>try simp only [go_sem,hk]|fail)
    · rw [decide_eq_false hm] at fp
      generalize rounds 6 w=x at *
      with_reducible repeat' (first|refine br ?_ ?_<;>intro h e<;>(try simp only [e,go_sem])<;>clear e|rw [i64w (by omega)]|refine sd ?_<;>try simp only [go_sem]|(first|refine cr (fc ..) ?_|refine cr (fp ..) ?_)<;>try simp only [go_sem]|fail)
  · rw [hw]
    simp only [go_sem,Option.isSome_none,Option.getD_none,zero_e,List.map_nil,bff]
    with_reducible repeat' (first|refine br ?_ ?_<;>intro h e<;>(try simp only [e,go_sem,bff])<;>clear e|rw [i64w (by omega)]|refine sd ?_<;>try simp only [go_sem,bff]|fail)
    refine callF (c18 .zero zeroWB) [] true (by simp only [go_sem,zero_e,List.map_nil];first|done|simp) (by simp) rfl (.inl rfl) ?_
    simp only [go_sem,bff]
    with_reducible repeat' (first|refine br ?_ ?_<;>intro h e<;>(try simp only [e,go_sem,bff])<;>clear e|rw [i64w (by omega)]|refine sd ?_<;>try simp only [go_sem,bff]|fail)
    all_goals first
      | (refine callF (c18 .zero zeroWB) [] true (by simp only [go_sem,zero_e,List.map_nil];first|done|simp) (by simp) rfl (.inl rfl) ?_
         simp only [go_sem,bff];done)
      | skip
end Go.Proofs.YtgganfobejnfaaaGreatDoor.W
namespace Go.Proofs.YtgganfobejnfaaaGreatDoor.fnWorldStill
open Go Go.ChangeShapes Go.WideShapes Go.ChangeAt Go.RowKit Go.Proofs.YtgganfobejnfaaaGreatDoor.W
theorem walk (v0 v1:Value) (W:World) (hs:W.ShapedOpen Tryz.prog) (hL:laidMetH Tryz.prog Rows.fnWorldStillRow.laid W) (hv0:∃ code:M.B,VL.Den W noO noρ noH (.sl 1 (code.map M.byR)) v0) (hv1:∃ code:M.B,VL.Den W noO noρ noH (.sl 1 (code.map M.byR)) v1) :
    Calls Tryz.prog 11 #[v0,v1] W fun e W'=>e=.returned (.bool true)∧Below W.heap.size W W':=by
  obtain ⟨code,hdv0⟩:=hv0
  obtain ⟨more,hdv1⟩:=hv1
  have:=Go.Proofs.YtgganfobejnfaaaGreatDoor.W.FnR.calls (c11 code more) (us:=[v0,v1]) (gOk rfl hL hs) ⟨rfl,fun j a b ha hb=>by
    match j,ha,hb with
    | 0,ha,hb=>cases ha;cases hb;exact hdv0
    | 1,ha,hb=>cases ha;cases hb;exact hdv1
    | j+2,ha,hb=>simp at ha⟩
  exact this
set_option maxRecDepth 100000 in
theorem contract (H:Type) (enc:TypeId × Value→H) (W:World) (base:Nat) (args:Array Value) (ds gs:List (DataW H)) (before:List MemPlace)
    (hval:∀ (j:Nat) t v,Tryz.f11.params[j]?=some t→args[j]?=some v→Value.okWide Tryz.prog W .any base t v)
    (hW:DataW.Whole enc Tryz.prog Tryz.f11.params.toList Rows.fnWorldStillSpec.vars false W args.toList ds gs before) (hL:laidMetH Tryz.prog Rows.fnWorldStillRow.laid W) (hs:W.ShapedOpen Tryz.prog) :
    Calls Tryz.prog 11 args W fun e W'=>∃ v,e=.returned v∧Rows.fnWorldStillSpec.post enc Tryz.prog Tryz.f11 false true false false W args v W':=by
  have hW':=hW
  obtain ⟨p,q,hA0,hV,rfl,hfz,hnd⟩:=hW
  have hA:DataW.TrodAll enc Tryz.prog W 0 (fun _=>true) true Tryz.f11.params.toList args.toList ds p:=hA0
  rw [Tryz.params11] at hA hval
  obtain ⟨v0,r0s,d0,d0s,p0,q0,hargs0,rfl,rfl,h0,r0⟩:=trodAll_cons hA
  obtain ⟨v1,r1s,d1,d1s,p1,q1,hargs1,rfl,rfl,h1,r1⟩:=trodAll_cons r0
  obtain ⟨e1,e2,e3⟩:=trodAll_nil r1
  subst e1 e2 e3
  obtain rfl:args=#[v0,v1]:=by cases args;simp_all
  obtain ⟨rfl,rfl⟩:=trodVars_none hV
  obtain ⟨a0,len0,cap0,hv0⟩:=okWide_slice Tryz.underlying22 (hval 0 22 v0 rfl rfl)
  have k0:=h0
  have lt0:∀ x∈p0,x.block<W.heap.size:=by obtain ⟨m,hm⟩:=k0;exact DataW.trod_lt m _ _ _ hm
  have hc0:=open_code h0 ⟨a0,len0,cap0,hv0⟩
  obtain ⟨a1,len1,cap1,hv1⟩:=okWide_slice Tryz.underlying22 (hval 1 22 v1 rfl rfl)
  have k1:=h1
  have lt1:∀ x∈p1,x.block<W.heap.size:=by obtain ⟨m,hm⟩:=k1;exact DataW.trod_lt m _ _ _ hm
  have hc1:=open_code h1 ⟨a1,len1,cap1,hv1⟩
  clear hA0
  refine (walk v0 v1 W hs hL hc0 hc1).mono fun e W' ⟨he,bel⟩=>?_
  subst he
  exact ⟨_,rfl,_,_,_,[],_,[],hW',trodAll_mk1 (shut_bool Tryz.underlying4 _),(trodAll_cons_mk (Below.trod laidOut (by kernel_rfl) (of_decide_eq_true (by kernel_rfl)) k0 bel lt0) (trodAll_cons_mk (Below.trod laidOut (by kernel_rfl) (of_decide_eq_true (by kernel_rfl)) k1 bel lt1) trodAll_mk0)),rfl,bel.frame _,fun h=>by cases h⟩
theorem inP:(Rows.fnWorldStillRow.inPlace == Tryz.prog.inPlace 11)=true:=by kernel_rfl
theorem unf:(Rows.fnWorldStillRow.unfollowed == Tryz.prog.unfollowed 11)=true:=by kernel_rfl
theorem rcs:(Rows.fnWorldStillRow.recurses == Tryz.prog.recurses 11)=true:=by kernel_rfl
theorem nam:(Rows.fnWorldStillRow.named == Tryz.prog.varsNamed 11)=true:=by kernel_rfl
theorem lif:(Rows.fnWorldStillRow.lifted == Tryz.prog.liftsFinal)=true:=lifF
theorem pke:(Rows.fnWorldStillRow.plainKeys == Tryz.prog.plainKeys)=true:=pkeF
theorem mak:(Tryz.prog.make == some Rows.fnWorldStillRow.make)=true:=makF
theorem closed0:joinedFacts Tryz.prog 11 Tryz.f11 Rows.fnWorldStillSpec Rows.fnWorldStillRow=true:=by
  unfold joinedFacts
  rw [laidOut,mapF,inP,unf,rcs,nam,pke,stoF,mayF,lif,mak]
  kernel_rfl
theorem closed:joinedFacts Tryz.pinned.checked.prog 11 Tryz.f11 (OpenSpec.ofChange Rows.fnWorldStillSpec).bare Rows.fnWorldStillRow=true :=
  (show joinedFacts Tryz.pinned.checked.prog 11 Tryz.f11 (OpenSpec.ofChange Rows.fnWorldStillSpec).bare Rows.fnWorldStillRow=joinedFacts Tryz.prog 11 Tryz.f11 Rows.fnWorldStillSpec Rows.fnWorldStillRow by kernel_rfl).trans closed0
theorem door_met (os:Os) (args:Array Value):laidMetH Tryz.prog Rows.fnWorldStillRow.laid ((World.doorLaid Tryz.prog 400 os).forCall (fun _ _=>0) ⟨#[],args,[]⟩).memory :=
  laidMetH_of_parts3 (fuel:=8) (laidMet_of_run' 8 (by kernel_rfl) (by kernel_rfl)) (by kernel_rfl) (by kernel_rfl)
theorem reads (os:Os) {H:Type} (enc:TypeId × Value→H):∃ places,DataW.whole enc Tryz.prog ((World.doorLaid Tryz.prog 400 os).forCall (fun _ _=>0) ⟨#[],#[.slice none 0 0,.slice none 0 0],[]⟩).memory Tryz.f11.params.toList Rows.fnWorldStillSpec.vars false #[Value.slice none 0 0,Value.slice none 0 0].toList 8=some ([.nil,.nil],[],places) :=
  ⟨[],by kernel_rfl⟩
set_option maxRecDepth 100000 in
theorem lifted (os:Os) (started:os.Started) (H:Type) (enc:TypeId × Value→H) (F:Stop.Interp) :
    ReturnsInHanded {} Tryz.checked os 11 .any ((OpenSpec.ofChange Rows.fnWorldStillSpec).preRow enc Tryz.prog Tryz.f11 Rows.fnWorldStillRow.domain false Rows.fnWorldStillRow.laid) (((OpenSpec.ofChange Rows.fnWorldStillSpec).at F).post enc Tryz.prog Tryz.f11 false true false false):=by
  obtain ⟨places,hx⟩:=reads os enc
  refine returnsInHanded_of_row (C:=Tryz.checked) (s:=OpenSpec.ofChange Rows.fnWorldStillSpec) own started (by kernel_rfl) Tryz.func11
    (witness_row_atRef (enc:=enc) (C:=Tryz.checked) false (World.doorLaid Tryz.prog 400 os) #[.slice none 0 0,.slice none 0 0] rfl (by kernel_rfl) (by kernel_rfl) (by kernel_rfl)
      (OpenSpec.preRow_of_cond 8 hx (by kernel_rfl) (fun k hk=>by cases hk) (by kernel_rfl) (door_met os _))) ?_
  intro W base args ds gs before hval hW _ _ _ hL hs _
  exact contract H enc W base args ds gs before hval hW hL hs
theorem said:Rows.FnWorldStillSaid :=
  OpenClaim.holds_of_cond 11 Tryz.f11 rfl rfl rfl rfl rfl rfl rfl ⟨rfl,rfl,rfl,rfl,rfl⟩ rfl rfl rfl rfl rfl (by kernel_rfl) Tryz.func11 closed
    (of_decide_eq_true (by kernel_rfl)) (by unfold Func.isWrapper;first|(rw [if_pos (by decide +kernel)];kernel_rfl)|(rw [if_neg (by decide +kernel)];exact ⟨rfl,rfl⟩))
    (fun os started H enc _ F=>by rw [OpenClaim.pre_eq_preRow];exact lifted os started H enc F)
theorem plain (f:FuncId) (fn:Func) (hf:Tryz.pinned.checked.prog.funcNamed "loop.example/ostiary/laws.FnWorldStill"=some f) (hfn:Tryz.pinned.checked.prog.funcs[f]?=some fn) :
    true=Tryz.pinned.checked.prog.looks []∧∀ (j:Nat) t,fn.params[j]?=some t→Tryz.pinned.checked.prog.wantsStandIn t=false:=by
  obtain rfl:f=11:=Option.some.inj ((show Tryz.prog.funcNamed "loop.example/ostiary/laws.FnWorldStill"=some 11 by kernel_rfl).symm.trans hf) |>.symm
  obtain rfl:fn=Tryz.f11:=(Option.some.inj (Tryz.func11.symm.trans hfn)).symm
  refine ⟨by kernel_rfl,fun j t ht=>?_⟩
  rw [Tryz.params11] at ht
  obtain rfl:t=22:=by simpa using Array.mem_of_getElem? ht
  exact (show Tryz.prog.wantsStandIn 22=false by kernel_rfl)
theorem card:Rows.FnWorldStillCardSaid :=
  Claim7.holds_tied_plain_at .later [] _ _ _ _ said (fun _ h=>by cases h) (by kernel_rfl) (fun _ h=>by cases h) fnWorldStill_row_tie rfl ⟨rfl,rfl⟩ (by kernel_rfl) rfl plain (by kernel_rfl)
end Go.Proofs.YtgganfobejnfaaaGreatDoor.fnWorldStill
