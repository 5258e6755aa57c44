/- FnDoorHides: with ports left no inner name goes out. Conditions: those of the row alone. -/
import Derived.Test.YtfepdcpidkjklaaGreatDoorX07
import Derived.Test.YtfepdcpidkjklaaGreatDoorX04
import Derived.Test.YtfepdcpidkjklaaGreatDoorCards
import Derived.Test.YtfepdcpidkjklaaGreatDoorTie
set_option linter.all false
namespace Go.Proofs.YtfepdcpidkjklaaGreatDoor.W
open Go Go.RowKit Go.Proofs Go.Proofs.YtfepdcpidkjklaaGreatDoor.VL Go.Proofs.YtfepdcpidkjklaaGreatDoor.M
attribute [local congr] optK_congr guardK_congr condK_congr runT_congr runD_congr wpI_congr CallV_congr LoopI_congr pureK_congr effK_congr calK_congr stepV_congr doV_congr exN_congr exB_congr retF_congr retQ_congr gK_congr condW_congr ldK_congr stoK_congr
attribute [local go_sem] argL_cons argL_nil argH_nil argH_cons chH_getH wpI_seq wpI_reg wpI_drw wpI_ret cond_k condW_t condW_f wpI_skip wpI_block wpI_exit wpI_loop exN_n exN_r exN_e exB_n exB_r exB_h exB_m runT_k kT_e runT_nil runD_k kD_e runD_nil step_u step_k gK_t gK_f do_mv do_bino bo_add bo_sub bo_mul bo_subu bo_quo bo_rem bo_xor bo_eql bo_neq bo_lss bo_leq bo_gtr bo_geq bo_cat bo_eqs bo_nes do_pick do_call do_cal calK_f do_box do_alloc do_ldk ldK_s do_stok stoK_s do_fad do_nilc do_not do_neg do_len do_lens do_ext do_eqs do_beq do_isn do_cvi do_sls do_idx do_mn do_mx do_build do_mkf do_s2b do_b2s do_slv do_iad do_bsl do_mks do_app ev_t ev_c app_some app_none
attribute [local go_sem] List.nil_append List.cons_append List.append_nil getL_hit getL_miss getH_nil getH_hit getH_miss nm_eq ne_eq Nat.reduceEqDiff not_false_eq_true Nat.reduceAdd Nat.add_zero Nat.zero_add if_true if_false ite_true ite_false pureK_s effK_s optK_s gdV_t gdV_f gdV_s pick_b ge_iff_le gt_iff_lt cond_true cond_false fresh_k cells_agg cells_int cells_bool cells_str cells_own cells_sl cells_nils ld_pv ld_pa ld_ip ldVar_t ldVar_f ldArr_t ldArr_f ldRow_t ldRow_f ldA_s ld1_s fad_pv fad_pa fad_ip nilc_pv nilc_pa nilc_ip not_b neg_i cvi_i ext_t retF_n retF_r
attribute [local go_sem] resV_k rvs_nil rvs_t rvs_c fstO_s consO_s resK_s resL_1 resL_2 resL_3 resL_4  Option.some.injEq List.map_cons List.map_nil List.all_cons List.all_nil Bool.and_true Bool.and_self Bool.not_true Bool.not_false Option.map_some Option.map_none sls_s slsG_s loV_n loV_i hiV_n hiV_i idx_s mn_i mx_i s2b_s b2s_s bytO_s bytes_nil bytes_cons conB_s slv_sl slv_own slv_nils slvG_s slvN_s slvO_s iad_sl iadG_map take_map drop_map List.length_map iad_own iad_view iadO_a iadW_a mks_i rowO_nils rowO_sl rowO_own rowA_a eq_self appG_nils appG_own appO_a guardP_T mapA_s bld_nil mkf_nil bldF_e fill_nil fill_cons mkf_e lens_s len_nils len_sl len_own len_view isn_nile isn_erre List.getElem?_cons_zero List.getElem?_cons_succ List.length_cons List.length_nil decide_true decide_false Int.toNat_natCast Int.cast_ofNat_Int Int.reduceLT Int.reduceLE Int.reduceEq Int.reduceAdd Int.reduceSub Int.reduceMul Int.reduceNeg Int.reduceToNat List.getD_cons_zero List.getD_cons_succ not_true_eq_false not_false_eq_true Bool.false_eq_true Bool.true_eq_false reduceCtorEq
attribute [local go_sem] E.row Pc.row Pair.row Part.row Strm.row Flw.row Pk.row Door.row Conv.row World.row Ev.row rdV E.eta Pc.eta Pair.eta Part.eta Strm.eta Pk.eta Flw.eta Conv.eta Door.eta World.eta Ev.eta
attribute [local go_sem] sub_ok st_pv st_pa stVar_v stArr_a Nat.le_refl List.drop_zero List.drop_succ_cons List.take_succ_cons List.take_zero setR Nat.reduceLeDiff
attribute [local go_sem] wk_bot wk2_bot wk1_bot wk_undef wk_tup_e wk2_agg_e wk_agg_e wk1_fn_e wk2_fn_e wk_fn_e wkl_nil wkl_cons wkh_var_e wkh_arr_e wkh_fresh_e wkh_dead_v wkh_dead_a wkh_dead_d wk0_undef wk0_int wk0_bool wk0_str wk0_nils wk0_nils_sl wk0_nilp wk0_nile wk0_erre wk0_sl wk0_iptr wk0_own wk0_view wk0_pv wk0_pa fzA_a fzW_a fzP_v wk0_own_sl wk0_view_sl wk0_pv_iptr WkS_nil WkS_cons WkN_nil WkN_cons nonB_nil nonB_cons getN_nil getN_hit getN_miss pinOk_0 pinOk_s and_true true_and and_self
attribute [local go_sem] bot_int one_int unt_int clo_int bot_bool one_bool unt_bool clo_bool bot_str one_str unt_str clo_str bot_nils one_nils unt_nils clo_nils bot_nilp one_nilp unt_nilp clo_nilp bot_nile one_nile unt_nile clo_nile bot_erre one_erre unt_erre clo_erre bot_raw one_raw unt_raw clo_raw bot_sl one_sl unt_sl clo_sl bot_own one_own unt_own clo_own bot_view one_view unt_view clo_view bot_pv one_pv unt_pv clo_pv bot_pa one_pa unt_pa clo_pa bot_iptr one_iptr unt_iptr clo_iptr unt_agg unt_fn one_fn
attribute [local go_sem] rn_tup rn_agg rn2_agg rn_fn rn2_fn rnfn1 rn_bot rn2_bot rn1_bot rn0_int rn0_bool rn0_str rn0_nils rn0_nilp rn0_nile rn0_erre rn0_sl rn0_iptr rn0_own rn0_view rn0_pv rn0_pa hrn_var hrn_arr hrn_dead outU_nil outU_cons deads_nil deads_cons bk_ge bk_lt nsF_0 nsF_s chH_0 chH_s chH_n newN_e andB_s eqR_nil eqR_i eqR_b eqR_s mapX_f mapX_t eqs_a beq_f beq_t live_arr live_var nsl_nil nsl_cons Nat.reduceMul Nat.reduceLT Nat.zero_le Nat.not_lt_zero
attribute [local go_sem] mV lD lA fD bN eX oP nP sR i0 s0
def ic11:IC:=sR [oP 2 (.mv (.c (.bool false)))] (.seq (sR [mV 15 0,oP 16 (.len (.t 15)),oP 17 (.bin .gtr (.t 16) (.c (.int .i64 1048576)))] (.cond (.t 17) (sR [oP 2 (.mv (.c (.bool true)))] .ret) .skip)) (sR [mV 19 0,oP 20 (.call 16 [.t 19]),mV 18 20,eX 21 18 0,eX 22 18 1,oP 3 (.alloc 26 [.nils,.nils]),oP 4 (.alloc 30 [i0,i0,i0,i0,i0,i0,s0]),nP (.sto 2 (.t 3) (.t 21)),nP (.sto 7 (.t 4) (.t 22))] (sR [lA 24 2 3,lA 25 7 4,oP 26 (.call 17 [.t 24,.t 25]),mV 23 26,eX 27 23 0,eX 28 23 1,eX 29 23 2,oP 5 (.alloc 26 [.nils,.nils]),oP 6 (.alloc 30 [i0,i0,i0,i0,i0,i0,s0]),nP (.sto 2 (.t 5) (.t 27)),nP (.sto 7 (.t 6) (.t 28)),mV 7 29] (sR [lA 31 2 3,lA 32 7 4,oP 33 (.call 18 [.t 31,.t 32]),mV 30 33,eX 34 30 0,eX 35 30 1,eX 36 30 2,oP 8 (.alloc 26 [.nils,.nils]),oP 9 (.alloc 30 [i0,i0,i0,i0,i0,i0,s0]),nP (.sto 2 (.t 8) (.t 34)),nP (.sto 7 (.t 9) (.t 35)),mV 10 36] (.seq (sR [mV 37 10,mV 38 7,oP 39 (.beq true (.t 37) (.t 38)),mV 40 39,⟨some 41,some (40,false),.ld 7 true (.t 9)⟩,⟨some 42,some (40,false),.ld 7 true (.t 6)⟩,⟨some 43,some (40,false),.eqs true [.i,.i,.i,.i,.i,.i,.s] (.t 41) (.t 42)⟩,oP 44 (.pick (.t 40) (.c (.bool true)) (.t 43)),mV 45 44,⟨some 46,some (45,false),.ld 2 true (.t 8)⟩,⟨some 47,some (45,false),.ld 2 true (.t 5)⟩,⟨some 48,some (45,false),.call 19 [.t 46,.t 47]⟩,⟨some 49,some (45,false),.un .not (.t 48)⟩,oP 50 (.pick (.t 45) (.c (.bool true)) (.t 49)),mV 51 50,⟨some 52,some (51,false),.mv (.t 10)⟩,⟨some 53,some (51,false),.un .not (.t 52)⟩,oP 54 (.pick (.t 51) (.c (.bool true)) (.t 53)),mV 55 54,⟨some 56,some (55,false),.fad 0 (.t 8)⟩,⟨some 57,some (55,false),.ld 1 false (.t 56)⟩,⟨some 58,some (55,false),.len (.t 57)⟩,⟨some 59,some (55,false),.bin .gtr (.t 58) (.c (.int .i64 7))⟩,oP 60 (.pick (.t 55) (.c (.bool true)) (.t 59))] (.cond (.t 60) (sR [mV 61 10,mV 62 7,oP 63 (.beq false (.t 61) (.t 62)),mV 64 63,⟨some 65,some (64,true),.ld 7 true (.t 9)⟩,⟨some 66,some (64,true),.ld 7 true (.t 6)⟩,⟨some 67,some (64,true),.eqs false [.i,.i,.i,.i,.i,.i,.s] (.t 65) (.t 66)⟩,oP 68 (.pick (.t 64) (.t 67) (.c (.bool false))),mV 69 68,⟨some 70,some (69,true),.ld 2 true (.t 8)⟩,⟨some 71,some (69,true),.ld 2 true (.t 5)⟩,⟨some 72,some (69,true),.call 19 [.t 70,.t 71]⟩,oP 73 (.pick (.t 69) (.t 72) (.c (.bool false))),mV 2 73] .ret) .skip)) (sR [lA 75 2 3,fD 76 1 4,lA 77 2 76,fD 78 3 4,lA 79 2 78,oP 80 (.call 29 [.t 75,.t 77,.t 79]),mV 74 80,eX 81 74 0,eX 82 74 1,oP 11 (.alloc 46 [i0,i0,i0,i0,s0,.nils,s0,.nils]),nP (.sto 8 (.t 11) (.t 81)),mV 12 82] (.seq (sR [fD 83 4 11,lA 84 2 83,oP 85 (.call 32 [.t 84]),oP 86 (.bin .neq (.t 85) (.c s0))] (.cond (.t 86) (sR [oP 2 (.mv (.c (.bool true)))] .ret) .skip)) (sR [fD 87 6 9,lD 88 1 87,oP 89 (.call 40 [.t 88]),mV 13 89] (.seq (sR [oP 14 (.mv (.c i0))] (.block 0 (.loop (.seq (sR [mV 90 14,mV 91 13,oP 92 (.len (.t 91)),bN 93 .lss 90 92] (.cond (.t 93) .skip (.exit 0))) (.seq (.block 1 (sR [mV 96 13,mV 97 14,oP 98 (.iad 2 (.t 96) (.t 97)),lA 99 2 98,oP 100 (.call 41 [.t 99])] (.cond (.t 100) (sR [oP 2 (.mv (.c (.bool false)))] .ret) .skip))) (.reg [mV 94 14,oP 95 (.bin .add (.t 94) (.c (.int .i64 1))),mV 14 95])))))) (sR [oP 2 (.mv (.c (.bool true)))] .ret))))))))))
theorem dg11:Dg Tryz.prog 11 Tryz.f11 ic11 [(.t 2)]:=⟨Tryz.func11,by kernel_rfl,by kernel_rfl⟩
theorem c11 (code:B):FnR Tryz.prog G 11 [.sl 1 (code.map byR)] (.bool true):=by
  refine mF dg11 Tryz.ntmps11 ?_
  simp only [ic11,go_sem]
  by_cases hc:(1048576:Int)<code.length
  · simp only [eq_true hc,go_sem]
  simp only [eq_false hc,go_sem]
  refine callO (c16 code (by omega)) [] 20 0 (by simp only [go_sem];first|done|simp) (by simp) (by rintro _ _ ⟨_,_,_,_,_,rfl⟩;simp) (by intro i hi;omega) ?_
  rintro _ _ ⟨d,p,⟨hb,hl3,hq⟩,hpl,rfl,rfl⟩
  simp only [go_sem]
  have f1:=c17 d p hb (fun _=>hl3) (by omega)
  have f2:=c18 d p hb (by omega)
  have xb:=doorOut_db d p
  have hyes:=fun r (h:(doorOut d p).2=some r)=>doorOut_yes h
  obtain ⟨⟨x,o⟩,hx⟩:∃ y,doorOut d p=y:=⟨_,rfl⟩
  rw [hx] at f1 f2 xb hyes
  have f3:=l19 x xb
  simp only at f1 f2 f3 hyes xb
  cases o with
  | none =>
    simp only [Option.getD_none,Option.isSome_none] at f1 f2
    with_reducible repeat' (first|refine br ?_ ?_<;>intro h e<;>(try simp only [e,go_sem,dff])<;>clear e|rw [i64w (by omega)]|refine sd ?_<;>try simp only [go_sem,dff]|(first|refine cr (f1 ..) ?_|refine cr (f2 ..) ?_|refine cr (f3 ..) ?_)<;>try simp only [go_sem,dff]|fail)
  | some r =>
    obtain ⟨hd,hp,ho,hdx,hdo⟩:=hyes r rfl
    simp only [Option.getD_some,Option.isSome_some] at f1 f2
    have f4:=c29 d p.frm p.to hb.2.1
    have hg0:((flowIx d.flows p.frm p.to).bind fun k=>d.flows[k]?)=flowOf d p.frm p.to:=rfl
    rw [hg0] at f4
    by_cases h7:(7:Int)<x.map.length
    · with_reducible repeat' (first|refine br ?_ ?_<;>intro h e<;>(try simp only [e,go_sem,dtt,h7])<;>clear e|rw [i64w (by omega)]|refine sd ?_<;>try simp only [go_sem,dtt,h7]|(first|refine cr (f1 ..) ?_|refine cr (f2 ..) ?_|refine cr (f3 ..) ?_)<;>try simp only [go_sem,dtt,h7]|fail)
    have law:=law_doorHides hd hp ho hdo (by omega)
    have hfs:strmOk ((flowOf d p.frm p.to).getD .zero).up=true:=by
      cases h:flowOf d p.frm p.to with
      | none=>exact strmOk_zero
      | some g =>
        unfold flowOf at h
        cases hi:flowIx d.flows p.frm p.to with
        | none=>rw [hi] at h;cases h
        | some k=>rw [hi] at h;exact (flow_at hd h).2.2.1
    have hrl:r.text.length≤2000000:=by
      have:=(pk_of hd (pkOk_P hp) (r:=r) (by rw [pass_out ho,hdo]))
      first|exact Nat.le_trans this.len (by omega)|omega
    generalize (flowOf d p.frm p.to).getD .zero=g at *
    have f5:=c32 g.up hfs
    have f6:=c40 r.text hrl
    have hnl:=names_lenD r.text
    by_cases h0:sOut g.up=[]
    rotate_left
    · with_reducible repeat' (first|refine br ?_ ?_<;>intro h e<;>(try simp only [e,go_sem,dtt,h0])<;>clear e|rw [i64w (by omega)]|refine sd ?_<;>try simp only [go_sem,dtt,h0]|(first|refine cr (f1 ..) ?_|refine cr (f2 ..) ?_|refine cr (f3 ..) ?_|refine cr (f4 ..) ?_|refine cr (f5 ..) ?_)<;>try simp only [go_sem,dtt,h0]|fail)
      all_goals first|done|omega|(simp_all;done)|trace_state
    have law:=law h0
    rw [h0] at f5
    with_reducible repeat' (first|refine br ?_ ?_<;>intro h e<;>(try simp only [e,go_sem,dtt,h7])<;>clear e|rw [i64w (by omega)]|refine sd ?_<;>try simp only [go_sem,dtt,h7]|(first|refine cr (f1 ..) ?_|refine cr (f2 ..) ?_|refine cr (f3 ..) ?_|refine cr (f4 ..) ?_|refine cr (f5 ..) ?_|refine cr (f6 ..) ?_)<;>try simp only [go_sem,dtt,h7]|fail)
    refine loopN (fun i:Nat=>⟨getL [(13,.sl 2 ((textNames r.text).map E.row)),(14,.int .i64 (i:Int))],getH []⟩) (fun i=>(textNames r.text).length - i) (fun i=>i≤(textNames r.text).length) 0 (leQ []) (Nat.zero_le _) ?_
    intro i hi
    simp only [go_sem]
    by_cases h:(i:Int)<(textNames r.text).length
    · have hil:i<(textNames r.text).length:=by omega
      have hg:(textNames r.text).getD i default=(textNames r.text)[i]:=by simp [List.getD,hil]
      have hin:=law _ (List.getElem_mem hil)
      generalize (textNames r.text)[i]=e at *
      simp only [eq_true h,go_sem]
      with_reducible repeat' (first|refine br ?_ ?_<;>intro h e<;>(try simp only [e,go_sem,hg,getD_mp hil,hin])<;>clear e|rw [i64w (by omega)]|refine sd ?_<;>try simp only [go_sem,hg,getD_mp hil,hin]|(first|refine cr (c41 ..) ?_)<;>try simp only [go_sem,hg,getD_mp hil,hin]|fail)
      exact ⟨i+1,by omega,by omega,(leQ [])⟩
    · simp only [eq_false h,go_sem]
end Go.Proofs.YtfepdcpidkjklaaGreatDoor.W
namespace Go.Proofs.YtfepdcpidkjklaaGreatDoor.fnDoorHides
open Go Go.ChangeShapes Go.WideShapes Go.ChangeAt Go.RowKit Go.Proofs.YtfepdcpidkjklaaGreatDoor.W
theorem walk (v0:Value) (W:World) (hs:W.ShapedOpen Tryz.prog) (hL:laidMetH Tryz.prog Rows.fnDoorHidesRow.laid W) (hv0:∃ code:M.B,VL.Den W noO noρ noH (.sl 1 (code.map M.byR)) v0) :
    Calls Tryz.prog 11 #[v0] W fun e W'=>e=.returned (.bool true)∧Below W.heap.size W W':=by
  obtain ⟨code,hdv0⟩:=hv0
  have:=Go.Proofs.YtfepdcpidkjklaaGreatDoor.W.FnR.calls (c11 code) (us:=[v0]) (gOk rfl hL hs) ⟨rfl,fun j a b ha hb=>by
    match j,ha,hb with
    | 0,ha,hb=>cases ha;cases hb;exact hdv0
    | j+1,ha,hb=>simp at ha⟩
  exact this
set_option maxRecDepth 100000 in
theorem contract (H:Type) (enc:TypeId × Value→H) (W:World) (base:Nat) (args:Array Value) (ds gs:List (DataW H)) (before:List MemPlace)
    (hval:∀ (j:Nat) t v,Tryz.f11.params[j]?=some t→args[j]?=some v→Value.okWide Tryz.prog W .any base t v)
    (hW:DataW.Whole enc Tryz.prog Tryz.f11.params.toList Rows.fnDoorHidesSpec.vars false W args.toList ds gs before) (hL:laidMetH Tryz.prog Rows.fnDoorHidesRow.laid W) (hs:W.ShapedOpen Tryz.prog) :
    Calls Tryz.prog 11 args W fun e W'=>∃ v,e=.returned v∧Rows.fnDoorHidesSpec.post enc Tryz.prog Tryz.f11 false true false false W args v W':=by
  have hW':=hW
  obtain ⟨p,q,hA0,hV,rfl,hfz,hnd⟩:=hW
  have hA:DataW.TrodAll enc Tryz.prog W 0 (fun _=>true) true Tryz.f11.params.toList args.toList ds p:=hA0
  rw [Tryz.params11] at hA hval
  obtain ⟨v0,r0s,d0,d0s,p0,q0,hargs0,rfl,rfl,h0,r0⟩:=trodAll_cons hA
  obtain ⟨e1,e2,e3⟩:=trodAll_nil r0
  subst e1 e2 e3
  obtain rfl:args=#[v0]:=by cases args;simp_all
  obtain ⟨rfl,rfl⟩:=trodVars_none hV
  obtain ⟨a0,len0,cap0,hv0⟩:=okWide_slice Tryz.underlying22 (hval 0 22 v0 rfl rfl)
  have k0:=h0
  have lt0:∀ x∈p0,x.block<W.heap.size:=by obtain ⟨m,hm⟩:=k0;exact DataW.trod_lt m _ _ _ hm
  have hc0:=open_code h0 ⟨a0,len0,cap0,hv0⟩
  clear hA0
  refine (walk v0 W hs hL hc0).mono fun e W' ⟨he,bel⟩=>?_
  subst he
  exact ⟨_,rfl,_,_,_,[],_,[],hW',trodAll_mk1 (shut_bool Tryz.underlying4 _),(trodAll_cons_mk (Below.trod laidOut (by kernel_rfl) (of_decide_eq_true (by kernel_rfl)) k0 bel lt0) trodAll_mk0),rfl,bel.frame _,fun h=>by cases h⟩
theorem inP:(Rows.fnDoorHidesRow.inPlace == Tryz.prog.inPlace 11)=true:=by kernel_rfl
theorem unf:(Rows.fnDoorHidesRow.unfollowed == Tryz.prog.unfollowed 11)=true:=by kernel_rfl
theorem rcs:(Rows.fnDoorHidesRow.recurses == Tryz.prog.recurses 11)=true:=by kernel_rfl
theorem nam:(Rows.fnDoorHidesRow.named == Tryz.prog.varsNamed 11)=true:=by kernel_rfl
theorem lif:(Rows.fnDoorHidesRow.lifted == Tryz.prog.liftsFinal)=true:=lifF
theorem pke:(Rows.fnDoorHidesRow.plainKeys == Tryz.prog.plainKeys)=true:=pkeF
theorem mak:(Tryz.prog.make == some Rows.fnDoorHidesRow.make)=true:=makF
theorem closed0:joinedFacts Tryz.prog 11 Tryz.f11 Rows.fnDoorHidesSpec Rows.fnDoorHidesRow=true:=by
  unfold joinedFacts
  rw [laidOut,mapF,inP,unf,rcs,nam,pke,stoF,mayF,lif,mak]
  kernel_rfl
theorem closed:joinedFacts Tryz.pinned.checked.prog 11 Tryz.f11 (OpenSpec.ofChange Rows.fnDoorHidesSpec).bare Rows.fnDoorHidesRow=true :=
  (show joinedFacts Tryz.pinned.checked.prog 11 Tryz.f11 (OpenSpec.ofChange Rows.fnDoorHidesSpec).bare Rows.fnDoorHidesRow=joinedFacts Tryz.prog 11 Tryz.f11 Rows.fnDoorHidesSpec Rows.fnDoorHidesRow by kernel_rfl).trans closed0
theorem door_met (os:Os) (args:Array Value):laidMetH Tryz.prog Rows.fnDoorHidesRow.laid ((World.doorLaid Tryz.prog 400 os).forCall (fun _ _=>0) ⟨#[],args,[]⟩).memory :=
  laidMetH_of_parts3 (fuel:=8) (laidMet_of_run' 8 (by kernel_rfl) (by kernel_rfl)) (by kernel_rfl) (by kernel_rfl)
theorem reads (os:Os) {H:Type} (enc:TypeId × Value→H):∃ places,DataW.whole enc Tryz.prog ((World.doorLaid Tryz.prog 400 os).forCall (fun _ _=>0) ⟨#[],#[.slice none 0 0],[]⟩).memory Tryz.f11.params.toList Rows.fnDoorHidesSpec.vars false #[Value.slice none 0 0].toList 8=some ([.nil],[],places) :=
  ⟨[],by kernel_rfl⟩
set_option maxRecDepth 100000 in
theorem lifted (os:Os) (started:os.Started) (H:Type) (enc:TypeId × Value→H) (F:Stop.Interp) :
    ReturnsInHanded {} Tryz.checked os 11 .any ((OpenSpec.ofChange Rows.fnDoorHidesSpec).preRow enc Tryz.prog Tryz.f11 Rows.fnDoorHidesRow.domain false Rows.fnDoorHidesRow.laid) (((OpenSpec.ofChange Rows.fnDoorHidesSpec).at F).post enc Tryz.prog Tryz.f11 false true false false):=by
  obtain ⟨places,hx⟩:=reads os enc
  refine returnsInHanded_of_row (C:=Tryz.checked) (s:=OpenSpec.ofChange Rows.fnDoorHidesSpec) own started (by kernel_rfl) Tryz.func11
    (witness_row_atRef (enc:=enc) (C:=Tryz.checked) false (World.doorLaid Tryz.prog 400 os) #[.slice none 0 0] rfl (by kernel_rfl) (by kernel_rfl) (by kernel_rfl)
      (OpenSpec.preRow_of_cond 8 hx (by kernel_rfl) (fun k hk=>by cases hk) (by kernel_rfl) (door_met os _))) ?_
  intro W base args ds gs before hval hW _ _ _ hL hs _
  exact contract H enc W base args ds gs before hval hW hL hs
theorem said:Rows.FnDoorHidesSaid :=
  OpenClaim.holds_of_cond 11 Tryz.f11 rfl rfl rfl rfl rfl rfl rfl ⟨rfl,rfl,rfl,rfl,rfl⟩ rfl rfl rfl rfl rfl (by kernel_rfl) Tryz.func11 closed
    (of_decide_eq_true (by kernel_rfl)) (by unfold Func.isWrapper;first|(rw [if_pos (by decide +kernel)];kernel_rfl)|(rw [if_neg (by decide +kernel)];exact ⟨rfl,rfl⟩))
    (fun os started H enc _ F=>by rw [OpenClaim.pre_eq_preRow];exact lifted os started H enc F)
theorem plain (f:FuncId) (fn:Func) (hf:Tryz.pinned.checked.prog.funcNamed "loop.example/ostiary/laws.FnDoorHides"=some f) (hfn:Tryz.pinned.checked.prog.funcs[f]?=some fn) :
    true=Tryz.pinned.checked.prog.looks []∧∀ (j:Nat) t,fn.params[j]?=some t→Tryz.pinned.checked.prog.wantsStandIn t=false:=by
  obtain rfl:f=11:=Option.some.inj ((show Tryz.prog.funcNamed "loop.example/ostiary/laws.FnDoorHides"=some 11 by kernel_rfl).symm.trans hf) |>.symm
  obtain rfl:fn=Tryz.f11:=(Option.some.inj (Tryz.func11.symm.trans hfn)).symm
  refine ⟨by kernel_rfl,fun j t ht=>?_⟩
  rw [Tryz.params11] at ht
  obtain rfl:t=22:=by simpa using Array.mem_of_getElem? ht
  exact (show Tryz.prog.wantsStandIn 22=false by kernel_rfl)
theorem card:Rows.FnDoorHidesCardSaid :=
  Claim7.holds_tied_plain_at .later [] _ _ _ _ said (fun _ h=>by cases h) (by kernel_rfl) (fun _ h=>by cases h) fnDoorHides_row_tie rfl ⟨rfl,rfl⟩ (by kernel_rfl) rfl plain (by kernel_rfl)
end Go.Proofs.YtfepdcpidkjklaaGreatDoor.fnDoorHides
