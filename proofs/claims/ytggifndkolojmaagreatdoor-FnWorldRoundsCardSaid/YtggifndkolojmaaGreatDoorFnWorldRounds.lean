/- FnWorldRounds: calm rounds in one go or in two are the same. Conditions: those of the row alone. -/
import Derived.Test.YtggifndkolojmaaGreatDoorY07
import Derived.Test.YtggifndkolojmaaGreatDoorY04
import Derived.Test.YtggifndkolojmaaGreatDoorCards
import Derived.Test.YtggifndkolojmaaGreatDoorTie
set_option linter.all false
namespace Go.Proofs.YtggifndkolojmaaGreatDoor.W
open Go Go.RowKit Go.Proofs Go.Proofs.YtggifndkolojmaaGreatDoor.VL Go.Proofs.YtggifndkolojmaaGreatDoor.M
attribute [local congr] optK_congr guardK_congr condK_congr runT_congr runD_congr wpI_congr CallV_congr LoopI_congr pureK_congr effK_congr calK_congr stepV_congr doV_congr exN_congr exB_congr retF_congr retQ_congr gK_congr condW_congr ldK_congr stoK_congr
attribute [local go_sem] argL_cons argL_nil argH_nil argH_cons chH_getH wpI_seq wpI_reg wpI_drw wpI_ret cond_k condW_t condW_f wpI_skip wpI_block wpI_exit wpI_loop exN_n exN_r exN_e exB_n exB_r exB_h exB_m runT_k kT_e runT_nil runD_k kD_e runD_nil step_u step_k gK_t gK_f do_mv do_bino bo_add bo_sub bo_mul bo_subu bo_quo bo_rem bo_xor bo_eql bo_neq bo_lss bo_leq bo_gtr bo_geq bo_cat bo_eqs bo_nes do_pick do_call do_cal calK_f do_box do_alloc do_ldk ldK_s do_stok stoK_s do_fad do_nilc do_not do_neg do_len do_lens do_ext do_eqs do_beq do_isn do_cvi do_sls do_idx do_mn do_mx do_build do_mkf do_s2b do_b2s do_slv do_iad do_bsl do_mks do_app ev_t ev_c app_some app_none
attribute [local go_sem] List.nil_append List.cons_append List.append_nil getL_hit getL_miss getH_nil getH_hit getH_miss nm_eq ne_eq Nat.reduceEqDiff not_false_eq_true Nat.reduceAdd Nat.add_zero Nat.zero_add if_true if_false ite_true ite_false pureK_s effK_s optK_s gdV_t gdV_f gdV_s pick_b ge_iff_le gt_iff_lt cond_true cond_false fresh_k cells_agg cells_int cells_bool cells_str cells_own cells_sl cells_nils ld_pv ld_pa ld_ip ldVar_t ldVar_f ldArr_t ldArr_f ldRow_t ldRow_f ldA_s ld1_s fad_pv fad_pa fad_ip nilc_pv nilc_pa nilc_ip not_b neg_i cvi_i ext_t retF_n retF_r
attribute [local go_sem] resV_k rvs_nil rvs_t rvs_c fstO_s consO_s resK_s resL_1 resL_2 resL_3 resL_4  Option.some.injEq List.map_cons List.map_nil List.all_cons List.all_nil Bool.and_true Bool.and_self Bool.not_true Bool.not_false Option.map_some Option.map_none sls_s slsG_s loV_n loV_i hiV_n hiV_i idx_s mn_i mx_i s2b_s b2s_s bytO_s bytes_nil bytes_cons conB_s slv_sl slv_own slv_nils slvG_s slvN_s slvO_s iad_sl iadG_map take_map drop_map List.length_map iad_own iad_view iadO_a iadW_a mks_i rowO_nils rowO_sl rowO_own rowA_a eq_self appG_nils appG_own appO_a guardP_T mapA_s bld_nil mkf_nil bldF_e fill_nil fill_cons mkf_e lens_s len_nils len_sl len_own len_view isn_nile isn_erre List.getElem?_cons_zero List.getElem?_cons_succ List.length_cons List.length_nil decide_true decide_false Int.toNat_natCast Int.cast_ofNat_Int Int.reduceLT Int.reduceLE Int.reduceEq Int.reduceAdd Int.reduceSub Int.reduceMul Int.reduceNeg Int.reduceToNat List.getD_cons_zero List.getD_cons_succ not_true_eq_false not_false_eq_true Bool.false_eq_true Bool.true_eq_false reduceCtorEq
attribute [local go_sem] E.row Pc.row Pair.row Part.row Strm.row Flw.row Pk.row Door.row Conv.row World.row Ev.row rdV E.eta Pc.eta Pair.eta Part.eta Strm.eta Pk.eta Flw.eta Conv.eta Door.eta World.eta Ev.eta
attribute [local go_sem] sub_ok st_pv st_pa stVar_v stArr_a Nat.le_refl List.drop_zero List.drop_succ_cons List.take_succ_cons List.take_zero setR Nat.reduceLeDiff
attribute [local go_sem] wk_bot wk2_bot wk1_bot wk_undef wk_tup_e wk2_agg_e wk_agg_e wk1_fn_e wk2_fn_e wk_fn_e wkl_nil wkl_cons wkh_var_e wkh_arr_e wkh_fresh_e wkh_dead_v wkh_dead_a wkh_dead_d wk0_undef wk0_int wk0_bool wk0_str wk0_nils wk0_nils_sl wk0_nilp wk0_nile wk0_erre wk0_sl wk0_iptr wk0_own wk0_view wk0_pv wk0_pa fzA_a fzW_a fzP_v wk0_own_sl wk0_view_sl wk0_pv_iptr WkS_nil WkS_cons WkN_nil WkN_cons nonB_nil nonB_cons getN_nil getN_hit getN_miss pinOk_0 pinOk_s and_true true_and and_self
attribute [local go_sem] bot_int one_int unt_int clo_int bot_bool one_bool unt_bool clo_bool bot_str one_str unt_str clo_str bot_nils one_nils unt_nils clo_nils bot_nilp one_nilp unt_nilp clo_nilp bot_nile one_nile unt_nile clo_nile bot_erre one_erre unt_erre clo_erre bot_raw one_raw unt_raw clo_raw bot_sl one_sl unt_sl clo_sl bot_own one_own unt_own clo_own bot_view one_view unt_view clo_view bot_pv one_pv unt_pv clo_pv bot_pa one_pa unt_pa clo_pa bot_iptr one_iptr unt_iptr clo_iptr unt_agg unt_fn one_fn
attribute [local go_sem] rn_tup rn_agg rn2_agg rn_fn rn2_fn rnfn1 rn_bot rn2_bot rn1_bot rn0_int rn0_bool rn0_str rn0_nils rn0_nilp rn0_nile rn0_erre rn0_sl rn0_iptr rn0_own rn0_view rn0_pv rn0_pa hrn_var hrn_arr hrn_dead outU_nil outU_cons deads_nil deads_cons bk_ge bk_lt nsF_0 nsF_s chH_0 chH_s chH_n newN_e andB_s eqR_nil eqR_i eqR_b eqR_s mapX_f mapX_t eqs_a beq_f beq_t live_arr live_var nsl_nil nsl_cons Nat.reduceMul Nat.reduceLT Nat.zero_le Nat.not_lt_zero
attribute [local go_sem] mV lD lA fD bN eX oP nP sR i0 s0
theorem calm_wb {w:M.World} (h:Dr w) (n:Int):WB (worldCalm w n):=by
  unfold worldCalm
  split
  · rename_i hc
    simp only [Bool.and_eq_true] at hc
    obtain ⟨X,hx⟩:=h.q hc.1
    exact wx_wb (hx.rounds _).x
  · exact zeroWB
def ic9:IC:=sR [oP 4 (.mv (.c (.bool false)))] (.seq (sR [mV 9 0,oP 10 (.len (.t 9)),oP 11 (.bin .gtr (.t 10) (.c (.int .i64 1048576))),mV 12 11,⟨some 13,some (12,false),.mv (.t 1)⟩,⟨some 14,some (12,false),.len (.t 13)⟩,⟨some 15,some (12,false),.bin .gtr (.t 14) (.c (.int .i64 1048576))⟩,oP 16 (.pick (.t 12) (.c (.bool true)) (.t 15))] (.cond (.t 16) (sR [oP 4 (.mv (.c (.bool true)))] .ret) .skip)) (sR [mV 18 0,oP 19 (.call 27 [.t 18]),mV 17 19,eX 20 17 0,eX 21 17 1,oP 5 (.alloc 33 [.nils,.nils,.nils,.nils]),nP (.sto 4 (.t 5) (.t 20)),mV 6 21] (sR [lA 22 4 5,mV 23 6,oP 24 (.call 28 [.t 22,.t 23]),oP 7 (.alloc 33 [.nils,.nils,.nils,.nils]),nP (.sto 4 (.t 7) (.t 24))] (.seq (.seq (.drw [0,0,0,6,15,31,63,127,255,511,1023,2047,4095,8191,16383,32767,65535,131071,262143] [(0,lA 25 4 7),(1,lA 26 4 5),(2,mV 27 6),(3,oP 28 (.call 29 [.t 26,.t 27])),(4,oP 29 (.call 13 [.t 25,.t 28])),(5,oP 30 (.un .not (.t 29))),(6,mV 31 30),(7,⟨some 32,some (31,false),.ld 4 true (.t 5)⟩),(8,⟨some 33,some (31,false),.call 22 [.t 32]⟩),(9,⟨some 34,some (31,false),.un .not (.t 33)⟩),(10,oP 35 (.pick (.t 31) (.c (.bool true)) (.t 34))),(11,mV 36 35),(12,⟨some 37,some (36,false),.mv (.t 6)⟩),(13,⟨some 38,some (36,false),.bin .lss (.t 37) (.c i0)⟩),(14,oP 39 (.pick (.t 36) (.c (.bool true)) (.t 38))),(15,mV 40 39),(16,⟨some 41,some (40,false),.mv (.t 6)⟩),(17,⟨some 42,some (40,false),.bin .gtr (.t 41) (.c (.int .i64 6))⟩),(18,oP 43 (.pick (.t 40) (.c (.bool true)) (.t 42)))]) (.cond (.t 43) (.seq (.drw [0,0,0,6,15,31] [(0,lA 44 4 7),(1,lA 45 4 5),(2,mV 46 6),(3,oP 47 (.call 29 [.t 45,.t 46])),(4,oP 48 (.call 13 [.t 44,.t 47])),(5,mV 4 48)]) .ret) .skip)) (sR [mV 49 1,oP 50 (.len (.t 49)),mV 51 6,oP 52 (.bin .add (.t 51) (.c (.int .i64 1))),bN 53 .rem 50 52,mV 8 53] (.seq (.drw [0,0,0,6,0,0,48,126,255,511,1023,2047,4095,8191] [(0,lA 54 4 7),(1,lA 55 4 5),(2,mV 56 8),(3,oP 57 (.call 28 [.t 55,.t 56])),(4,mV 58 6),(5,mV 59 8),(6,bN 60 .sub 58 59),(7,oP 61 (.call 28 [.t 57,.t 60])),(8,oP 62 (.call 13 [.t 54,.t 61])),(9,mV 63 62),(10,⟨some 64,some (63,true),.ld 4 true (.t 7)⟩),(11,⟨some 65,some (63,true),.call 23 [.t 64]⟩),(12,oP 66 (.pick (.t 63) (.t 65) (.c (.bool false)))),(13,mV 4 66)]) .ret))))))
theorem dg9:Dg Tryz.prog 9 Tryz.f9 ic9 [(.t 4)]:=⟨Tryz.func9,by kernel_rfl,by kernel_rfl⟩
theorem c9 (code more:B):FnR Tryz.prog G 9 [.sl 1 (code.map byR),.sl 1 (more.map byR)] (.bool true):=by
  refine mF dg9 Tryz.ntmps9 ?_
  simp only [ic9,go_sem]
  by_cases hc:(1048576:Int)<code.length
  · simp only [eq_true hc,go_sem]
  simp only [eq_false hc,go_sem]
  by_cases hm:(1048576:Int)<more.length
  · simp only [eq_true hm,go_sem]
  simp only [eq_false hm,go_sem]
  refine callO (c27 code (by omega)) [] 19 0 (by simp only [go_sem];first|done|simp) (by simp) (by rintro _ _ ⟨_,_,_,_,_,rfl⟩;simp) (by intro i hi;omega) ?_
  rintro _ _ ⟨w,n,⟨hd,hz⟩,hn,rfl,rfl⟩
  simp only [go_sem]
  have hq:worldOk w=true→∃ X,WX X w:=fun h=>(hd.q h).imp fun X hx=>hx.x
  have f1:=r28 w n hz.s hq
  have f2:=r29 w n hz.s hq
  have f3:=c22 w hz.s
  have f4:=c13 (worldCalm w n) (calm_wb hd n)
  cases hok:worldOk w with
  | false =>
    rw [hok] at f3
    generalize worldCalm w n=x at *
    with_reducible repeat' (first|refine br ?_ ?_<;>intro h e<;>(try simp only [e,go_sem])<;>clear e|rw [i64w (by omega)]|refine sd ?_<;>try simp only [go_sem]|(first|refine cr (f1 ..) ?_|refine cr (f2 ..) ?_|refine cr (f3 ..) ?_|refine cr (f4 ..) ?_)<;>try simp only [go_sem]|fail)
  | true =>
    rw [hok] at f3
    by_cases h0:n<0
    · generalize worldCalm w n=x at *
      with_reducible repeat' (first|refine br ?_ ?_<;>intro h e<;>(try simp only [e,go_sem,eq_true h0])<;>clear e|rw [i64w (by omega)]|refine sd ?_<;>try simp only [go_sem,eq_true h0]|(first|refine cr (f1 ..) ?_|refine cr (f2 ..) ?_|refine cr (f3 ..) ?_|refine cr (f4 ..) ?_)<;>try simp only [go_sem,eq_true h0]|fail)
    by_cases h6:6<n
    · generalize worldCalm w n=x at *
      with_reducible repeat' (first|refine br ?_ ?_<;>intro h e<;>(try simp only [e,go_sem,eq_false h0,eq_true h6])<;>clear e|rw [i64w (by omega)]|refine sd ?_<;>try simp only [go_sem,eq_false h0,eq_true h6]|(first|refine cr (f1 ..) ?_|refine cr (f2 ..) ?_|refine cr (f3 ..) ?_|refine cr (f4 ..) ?_)<;>try simp only [go_sem,eq_false h0,eq_true h6]|fail)
    obtain ⟨X,hx⟩:=hd.q hok
    obtain ⟨m,rfl⟩:∃ m:Nat,n=m:=⟨n.toNat,by omega⟩
    rw [(worldCalm_e w m).1 hok m rfl (by omega)] at f1 f2 f4
    obtain ⟨a,ha,hal⟩:=tmod_nat more.length (m+1) (by omega)
    rw [Int.natCast_add,Int.natCast_one] at ha
    obtain ⟨l1,l2,l3⟩:=law_rounds hx (show a≤m by omega)
    have hxa:=(hx.rounds a).x
    have d1:=x28 w a (by omega) hx.x hok
    have d2:=x28 (rounds a w) (m - a) (by omega) hxa l2
    rw [← l1] at d2
    have f5:=c23 (rounds m w) (wx_ws (hx.rounds m).x)
    rw [l3] at f5
    have hw1:IntKind.i64.wrap ((m:Int)+1)=m+1:=i64w (by omega)
    have hw2:IntKind.i64.wrap ((m:Int) - a)=((m - a:Nat):Int):=by rw [i64w (by omega)];omega
    clear l1 hq
    generalize rounds a w=u at *
    generalize rounds m w=x at *
    with_reducible repeat' (first|refine br ?_ ?_<;>intro h e<;>(try simp only [e,go_sem,eq_false h0,eq_false h6,hw1,ha,hw2])<;>clear e|rw [i64w (by omega)]|refine sd ?_<;>try simp only [go_sem,eq_false h0,eq_false h6,hw1,ha,hw2]|(first|refine cr (f1 ..) ?_|refine cr (f2 ..) ?_|refine cr (f3 ..) ?_|refine cr (f4 ..) ?_|refine cr (d1 ..) ?_|refine cr (d2 ..) ?_|refine cr (f5 ..) ?_)<;>try simp only [go_sem,eq_false h0,eq_false h6,hw1,ha,hw2]|fail)
end Go.Proofs.YtggifndkolojmaaGreatDoor.W
namespace Go.Proofs.YtggifndkolojmaaGreatDoor.fnWorldRounds
open Go Go.ChangeShapes Go.WideShapes Go.ChangeAt Go.RowKit Go.Proofs.YtggifndkolojmaaGreatDoor.W
theorem walk (v0 v1:Value) (W:World) (hs:W.ShapedOpen Tryz.prog) (hL:laidMetH Tryz.prog Rows.fnWorldRoundsRow.laid W) (hv0:∃ code:M.B,VL.Den W noO noρ noH (.sl 1 (code.map M.byR)) v0) (hv1:∃ code:M.B,VL.Den W noO noρ noH (.sl 1 (code.map M.byR)) v1) :
    Calls Tryz.prog 9 #[v0,v1] W fun e W'=>e=.returned (.bool true)∧Below W.heap.size W W':=by
  obtain ⟨code,hdv0⟩:=hv0
  obtain ⟨more,hdv1⟩:=hv1
  have:=Go.Proofs.YtggifndkolojmaaGreatDoor.W.FnR.calls (c9 code more) (us:=[v0,v1]) (gOk rfl hL hs) ⟨rfl,fun j a b ha hb=>by
    match j,ha,hb with
    | 0,ha,hb=>cases ha;cases hb;exact hdv0
    | 1,ha,hb=>cases ha;cases hb;exact hdv1
    | j+2,ha,hb=>simp at ha⟩
  exact this
set_option maxRecDepth 100000 in
theorem contract (H:Type) (enc:TypeId × Value→H) (W:World) (base:Nat) (args:Array Value) (ds gs:List (DataW H)) (before:List MemPlace)
    (hval:∀ (j:Nat) t v,Tryz.f9.params[j]?=some t→args[j]?=some v→Value.okWide Tryz.prog W .any base t v)
    (hW:DataW.Whole enc Tryz.prog Tryz.f9.params.toList Rows.fnWorldRoundsSpec.vars false W args.toList ds gs before) (hL:laidMetH Tryz.prog Rows.fnWorldRoundsRow.laid W) (hs:W.ShapedOpen Tryz.prog) :
    Calls Tryz.prog 9 args W fun e W'=>∃ v,e=.returned v∧Rows.fnWorldRoundsSpec.post enc Tryz.prog Tryz.f9 false true false false W args v W':=by
  have hW':=hW
  obtain ⟨p,q,hA0,hV,rfl,hfz,hnd⟩:=hW
  have hA:DataW.TrodAll enc Tryz.prog W 0 (fun _=>true) true Tryz.f9.params.toList args.toList ds p:=hA0
  rw [Tryz.params9] at hA hval
  obtain ⟨v0,r0s,d0,d0s,p0,q0,hargs0,rfl,rfl,h0,r0⟩:=trodAll_cons hA
  obtain ⟨v1,r1s,d1,d1s,p1,q1,hargs1,rfl,rfl,h1,r1⟩:=trodAll_cons r0
  obtain ⟨e1,e2,e3⟩:=trodAll_nil r1
  subst e1 e2 e3
  obtain rfl:args=#[v0,v1]:=by cases args;simp_all
  obtain ⟨rfl,rfl⟩:=trodVars_none hV
  obtain ⟨a0,len0,cap0,hv0⟩:=okWide_slice Tryz.underlying22 (hval 0 22 v0 rfl rfl)
  have k0:=h0
  have lt0:∀ x∈p0,x.block<W.heap.size:=by obtain ⟨m,hm⟩:=k0;exact DataW.trod_lt m _ _ _ hm
  have hc0:=open_code h0 ⟨a0,len0,cap0,hv0⟩
  obtain ⟨a1,len1,cap1,hv1⟩:=okWide_slice Tryz.underlying22 (hval 1 22 v1 rfl rfl)
  have k1:=h1
  have lt1:∀ x∈p1,x.block<W.heap.size:=by obtain ⟨m,hm⟩:=k1;exact DataW.trod_lt m _ _ _ hm
  have hc1:=open_code h1 ⟨a1,len1,cap1,hv1⟩
  clear hA0
  refine (walk v0 v1 W hs hL hc0 hc1).mono fun e W' ⟨he,bel⟩=>?_
  subst he
  exact ⟨_,rfl,_,_,_,[],_,[],hW',trodAll_mk1 (shut_bool Tryz.underlying4 _),(trodAll_cons_mk (Below.trod laidOut (by kernel_rfl) (of_decide_eq_true (by kernel_rfl)) k0 bel lt0) (trodAll_cons_mk (Below.trod laidOut (by kernel_rfl) (of_decide_eq_true (by kernel_rfl)) k1 bel lt1) trodAll_mk0)),rfl,bel.frame _,fun h=>by cases h⟩
theorem inP:(Rows.fnWorldRoundsRow.inPlace == Tryz.prog.inPlace 9)=true:=by kernel_rfl
theorem unf:(Rows.fnWorldRoundsRow.unfollowed == Tryz.prog.unfollowed 9)=true:=by kernel_rfl
theorem rcs:(Rows.fnWorldRoundsRow.recurses == Tryz.prog.recurses 9)=true:=by kernel_rfl
theorem nam:(Rows.fnWorldRoundsRow.named == Tryz.prog.varsNamed 9)=true:=by kernel_rfl
theorem lif:(Rows.fnWorldRoundsRow.lifted == Tryz.prog.liftsFinal)=true:=lifF
theorem pke:(Rows.fnWorldRoundsRow.plainKeys == Tryz.prog.plainKeys)=true:=pkeF
theorem mak:(Tryz.prog.make == some Rows.fnWorldRoundsRow.make)=true:=makF
theorem closed0:joinedFacts Tryz.prog 9 Tryz.f9 Rows.fnWorldRoundsSpec Rows.fnWorldRoundsRow=true:=by
  unfold joinedFacts
  rw [laidOut,mapF,inP,unf,rcs,nam,pke,stoF,mayF,lif,mak]
  kernel_rfl
theorem closed:joinedFacts Tryz.pinned.checked.prog 9 Tryz.f9 (OpenSpec.ofChange Rows.fnWorldRoundsSpec).bare Rows.fnWorldRoundsRow=true :=
  (show joinedFacts Tryz.pinned.checked.prog 9 Tryz.f9 (OpenSpec.ofChange Rows.fnWorldRoundsSpec).bare Rows.fnWorldRoundsRow=joinedFacts Tryz.prog 9 Tryz.f9 Rows.fnWorldRoundsSpec Rows.fnWorldRoundsRow by kernel_rfl).trans closed0
theorem door_met (os:Os) (args:Array Value):laidMetH Tryz.prog Rows.fnWorldRoundsRow.laid ((World.doorLaid Tryz.prog 400 os).forCall (fun _ _=>0) ⟨#[],args,[]⟩).memory :=
  laidMetH_of_parts3 (fuel:=8) (laidMet_of_run' 8 (by kernel_rfl) (by kernel_rfl)) (by kernel_rfl) (by kernel_rfl)
theorem reads (os:Os) {H:Type} (enc:TypeId × Value→H):∃ places,DataW.whole enc Tryz.prog ((World.doorLaid Tryz.prog 400 os).forCall (fun _ _=>0) ⟨#[],#[.slice none 0 0,.slice none 0 0],[]⟩).memory Tryz.f9.params.toList Rows.fnWorldRoundsSpec.vars false #[Value.slice none 0 0,Value.slice none 0 0].toList 8=some ([.nil,.nil],[],places) :=
  ⟨[],by kernel_rfl⟩
set_option maxRecDepth 100000 in
theorem lifted (os:Os) (started:os.Started) (H:Type) (enc:TypeId × Value→H) (F:Stop.Interp) :
    ReturnsInHanded {} Tryz.checked os 9 .any ((OpenSpec.ofChange Rows.fnWorldRoundsSpec).preRow enc Tryz.prog Tryz.f9 Rows.fnWorldRoundsRow.domain false Rows.fnWorldRoundsRow.laid) (((OpenSpec.ofChange Rows.fnWorldRoundsSpec).at F).post enc Tryz.prog Tryz.f9 false true false false):=by
  obtain ⟨places,hx⟩:=reads os enc
  refine returnsInHanded_of_row (C:=Tryz.checked) (s:=OpenSpec.ofChange Rows.fnWorldRoundsSpec) own started (by kernel_rfl) Tryz.func9
    (witness_row_atRef (enc:=enc) (C:=Tryz.checked) false (World.doorLaid Tryz.prog 400 os) #[.slice none 0 0,.slice none 0 0] rfl (by kernel_rfl) (by kernel_rfl) (by kernel_rfl)
      (OpenSpec.preRow_of_cond 8 hx (by kernel_rfl) (fun k hk=>by cases hk) (by kernel_rfl) (door_met os _))) ?_
  intro W base args ds gs before hval hW _ _ _ hL hs _
  exact contract H enc W base args ds gs before hval hW hL hs
theorem said:Rows.FnWorldRoundsSaid :=
  OpenClaim.holds_of_cond 9 Tryz.f9 rfl rfl rfl rfl rfl rfl rfl ⟨rfl,rfl,rfl,rfl,rfl⟩ rfl rfl rfl rfl rfl (by kernel_rfl) Tryz.func9 closed
    (of_decide_eq_true (by kernel_rfl)) (by unfold Func.isWrapper;first|(rw [if_pos (by decide +kernel)];kernel_rfl)|(rw [if_neg (by decide +kernel)];exact ⟨rfl,rfl⟩))
    (fun os started H enc _ F=>by rw [OpenClaim.pre_eq_preRow];exact lifted os started H enc F)
theorem plain (f:FuncId) (fn:Func) (hf:Tryz.pinned.checked.prog.funcNamed "loop.example/ostiary/laws.FnWorldRounds"=some f) (hfn:Tryz.pinned.checked.prog.funcs[f]?=some fn) :
    true=Tryz.pinned.checked.prog.looks []∧∀ (j:Nat) t,fn.params[j]?=some t→Tryz.pinned.checked.prog.wantsStandIn t=false:=by
  obtain rfl:f=9:=Option.some.inj ((show Tryz.prog.funcNamed "loop.example/ostiary/laws.FnWorldRounds"=some 9 by kernel_rfl).symm.trans hf) |>.symm
  obtain rfl:fn=Tryz.f9:=(Option.some.inj (Tryz.func9.symm.trans hfn)).symm
  refine ⟨by kernel_rfl,fun j t ht=>?_⟩
  rw [Tryz.params9] at ht
  obtain rfl:t=22:=by simpa using Array.mem_of_getElem? ht
  exact (show Tryz.prog.wantsStandIn 22=false by kernel_rfl)
theorem card:Rows.FnWorldRoundsCardSaid :=
  Claim7.holds_tied_plain_at .later [] _ _ _ _ said (fun _ h=>by cases h) (by kernel_rfl) (fun _ h=>by cases h) fnWorldRounds_row_tie rfl ⟨rfl,rfl⟩ (by kernel_rfl) rfl plain (by kernel_rfl)
end Go.Proofs.YtggifndkolojmaaGreatDoor.fnWorldRounds
