/- FnWorldApart: one event changes one conversation at most. Conditions: those of the row alone. -/
import Derived.Test.YtggifndkolojmaaGreatDoorX07
import Derived.Test.YtggifndkolojmaaGreatDoorX04
import Derived.Test.YtggifndkolojmaaGreatDoorCards
import Derived.Test.YtggifndkolojmaaGreatDoorTie
set_option linter.all false
namespace Go.Proofs.YtggifndkolojmaaGreatDoor.W
open Go Go.RowKit Go.Proofs Go.Proofs.YtggifndkolojmaaGreatDoor.VL Go.Proofs.YtggifndkolojmaaGreatDoor.M
attribute [local congr] optK_congr guardK_congr condK_congr runT_congr runD_congr wpI_congr CallV_congr LoopI_congr pureK_congr effK_congr calK_congr stepV_congr doV_congr exN_congr exB_congr retF_congr retQ_congr gK_congr condW_congr ldK_congr stoK_congr
attribute [local go_sem] argL_cons argL_nil argH_nil argH_cons chH_getH wpI_seq wpI_reg wpI_drw wpI_ret cond_k condW_t condW_f wpI_skip wpI_block wpI_exit wpI_loop exN_n exN_r exN_e exB_n exB_r exB_h exB_m runT_k kT_e runT_nil runD_k kD_e runD_nil step_u step_k gK_t gK_f do_mv do_bino bo_add bo_sub bo_mul bo_subu bo_quo bo_rem bo_xor bo_eql bo_neq bo_lss bo_leq bo_gtr bo_geq bo_cat bo_eqs bo_nes do_pick do_call do_cal calK_f do_box do_alloc do_ldk ldK_s do_stok stoK_s do_fad do_nilc do_not do_neg do_len do_lens do_ext do_eqs do_beq do_isn do_cvi do_sls do_idx do_mn do_mx do_build do_mkf do_s2b do_b2s do_slv do_iad do_bsl do_mks do_app ev_t ev_c app_some app_none
attribute [local go_sem] List.nil_append List.cons_append List.append_nil getL_hit getL_miss getH_nil getH_hit getH_miss nm_eq ne_eq Nat.reduceEqDiff not_false_eq_true Nat.reduceAdd Nat.add_zero Nat.zero_add if_true if_false ite_true ite_false pureK_s effK_s optK_s gdV_t gdV_f gdV_s pick_b ge_iff_le gt_iff_lt cond_true cond_false fresh_k cells_agg cells_int cells_bool cells_str cells_own cells_sl cells_nils ld_pv ld_pa ld_ip ldVar_t ldVar_f ldArr_t ldArr_f ldRow_t ldRow_f ldA_s ld1_s fad_pv fad_pa fad_ip nilc_pv nilc_pa nilc_ip not_b neg_i cvi_i ext_t retF_n retF_r
attribute [local go_sem] resV_k rvs_nil rvs_t rvs_c fstO_s consO_s resK_s resL_1 resL_2 resL_3 resL_4  Option.some.injEq List.map_cons List.map_nil List.all_cons List.all_nil Bool.and_true Bool.and_self Bool.not_true Bool.not_false Option.map_some Option.map_none sls_s slsG_s loV_n loV_i hiV_n hiV_i idx_s mn_i mx_i s2b_s b2s_s bytO_s bytes_nil bytes_cons conB_s slv_sl slv_own slv_nils slvG_s slvN_s slvO_s iad_sl iadG_map take_map drop_map List.length_map iad_own iad_view iadO_a iadW_a mks_i rowO_nils rowO_sl rowO_own rowA_a eq_self appG_nils appG_own appO_a guardP_T mapA_s bld_nil mkf_nil bldF_e fill_nil fill_cons mkf_e lens_s len_nils len_sl len_own len_view isn_nile isn_erre List.getElem?_cons_zero List.getElem?_cons_succ List.length_cons List.length_nil decide_true decide_false Int.toNat_natCast Int.cast_ofNat_Int Int.reduceLT Int.reduceLE Int.reduceEq Int.reduceAdd Int.reduceSub Int.reduceMul Int.reduceNeg Int.reduceToNat List.getD_cons_zero List.getD_cons_succ not_true_eq_false not_false_eq_true Bool.false_eq_true Bool.true_eq_false reduceCtorEq
attribute [local go_sem] E.row Pc.row Pair.row Part.row Strm.row Flw.row Pk.row Door.row Conv.row World.row Ev.row rdV E.eta Pc.eta Pair.eta Part.eta Strm.eta Pk.eta Flw.eta Conv.eta Door.eta World.eta Ev.eta
attribute [local go_sem] sub_ok st_pv st_pa stVar_v stArr_a Nat.le_refl List.drop_zero List.drop_succ_cons List.take_succ_cons List.take_zero setR Nat.reduceLeDiff
attribute [local go_sem] wk_bot wk2_bot wk1_bot wk_undef wk_tup_e wk2_agg_e wk_agg_e wk1_fn_e wk2_fn_e wk_fn_e wkl_nil wkl_cons wkh_var_e wkh_arr_e wkh_fresh_e wkh_dead_v wkh_dead_a wkh_dead_d wk0_undef wk0_int wk0_bool wk0_str wk0_nils wk0_nils_sl wk0_nilp wk0_nile wk0_erre wk0_sl wk0_iptr wk0_own wk0_view wk0_pv wk0_pa fzA_a fzW_a fzP_v wk0_own_sl wk0_view_sl wk0_pv_iptr WkS_nil WkS_cons WkN_nil WkN_cons nonB_nil nonB_cons getN_nil getN_hit getN_miss pinOk_0 pinOk_s and_true true_and and_self
attribute [local go_sem] bot_int one_int unt_int clo_int bot_bool one_bool unt_bool clo_bool bot_str one_str unt_str clo_str bot_nils one_nils unt_nils clo_nils bot_nilp one_nilp unt_nilp clo_nilp bot_nile one_nile unt_nile clo_nile bot_erre one_erre unt_erre clo_erre bot_raw one_raw unt_raw clo_raw bot_sl one_sl unt_sl clo_sl bot_own one_own unt_own clo_own bot_view one_view unt_view clo_view bot_pv one_pv unt_pv clo_pv bot_pa one_pa unt_pa clo_pa bot_iptr one_iptr unt_iptr clo_iptr unt_agg unt_fn one_fn
attribute [local go_sem] rn_tup rn_agg rn2_agg rn_fn rn2_fn rnfn1 rn_bot rn2_bot rn1_bot rn0_int rn0_bool rn0_str rn0_nils rn0_nilp rn0_nile rn0_erre rn0_sl rn0_iptr rn0_own rn0_view rn0_pv rn0_pa hrn_var hrn_arr hrn_dead outU_nil outU_cons deads_nil deads_cons bk_ge bk_lt nsF_0 nsF_s chH_0 chH_s chH_n newN_e andB_s eqR_nil eqR_i eqR_b eqR_s mapX_f mapX_t eqs_a beq_f beq_t live_arr live_var nsl_nil nsl_cons Nat.reduceMul Nat.reduceLT Nat.zero_le Nat.not_lt_zero
attribute [local go_sem] mV lD lA fD bN eX oP nP sR i0 s0
def ic5:IC:=sR [oP 2 (.mv (.c (.bool false)))] (.seq (sR [mV 8 0,oP 9 (.len (.t 8)),oP 10 (.bin .gtr (.t 9) (.c (.int .i64 1048576)))] (.cond (.t 10) (sR [oP 2 (.mv (.c (.bool true)))] .ret) .skip)) (sR [mV 12 0,oP 13 (.call 19 [.t 12]),mV 11 13,eX 14 11 0,eX 15 11 1,oP 3 (.alloc 33 [.nils,.nils,.nils,.nils]),oP 4 (.alloc 56 [i0,i0,i0,i0,i0,i0,i0,i0,i0,i0,s0]),nP (.sto 4 (.t 3) (.t 14)),nP (.sto 11 (.t 4) (.t 15))] (sR [lA 16 4 3,lA 17 11 4,oP 18 (.call 20 [.t 16,.t 17]),oP 5 (.alloc 33 [.nils,.nils,.nils,.nils]),nP (.sto 4 (.t 5) (.t 18))] (.seq (.seq (.drw [0,0,0,6,15,31,63,127,255,511,1023] [(0,lA 19 4 5),(1,lA 20 4 3),(2,lA 21 11 4),(3,oP 22 (.call 21 [.t 20,.t 21])),(4,oP 23 (.call 13 [.t 19,.t 22])),(5,oP 24 (.un .not (.t 23))),(6,mV 25 24),(7,⟨some 26,some (25,false),.ld 4 true (.t 3)⟩),(8,⟨some 27,some (25,false),.call 22 [.t 26]⟩),(9,⟨some 28,some (25,false),.un .not (.t 27)⟩),(10,oP 29 (.pick (.t 25) (.c (.bool true)) (.t 28)))]) (.cond (.t 29) (.seq (.drw [0,0,0,6,15,31] [(0,lA 30 4 5),(1,lA 31 4 3),(2,lA 32 11 4),(3,oP 33 (.call 21 [.t 31,.t 32])),(4,oP 34 (.call 13 [.t 30,.t 33])),(5,mV 2 34)]) .ret) .skip)) (sR [oP 6 (.mv (.c i0))] (.seq (sR [oP 7 (.mv (.c i0))] (.block 0 (.loop (.seq (sR [mV 35 7,fD 36 0 3,lD 37 1 36,oP 38 (.len (.t 37)),bN 39 .lss 35 38] (.cond (.t 39) .skip (.exit 0))) (.seq (.block 1 (.seq (.drw [0,1,0,7,15,0,32,0,224,480,1023] [(0,fD 42 0 5),(1,lD 43 1 42),(2,mV 44 7),(3,oP 45 (.iad 10 (.t 43) (.t 44))),(4,lA 46 10 45),(5,fD 47 0 3),(6,lD 48 1 47),(7,mV 49 7),(8,oP 50 (.iad 10 (.t 48) (.t 49))),(9,lA 51 10 50),(10,oP 52 (.eqs true [.i,.i,.i,.i,.s,.s,.i,.i,.s,.s] (.t 46) (.t 51)))]) (.cond (.t 52) (.reg [mV 53 6,oP 54 (.bin .add (.t 53) (.c (.int .i64 1))),mV 6 54]) .skip))) (.reg [mV 40 7,oP 41 (.bin .add (.t 40) (.c (.int .i64 1))),mV 7 41])))))) (.seq (sR [fD 55 0 4,lD 56 1 55,oP 57 (.bin .eql (.t 56) (.c (.int .i64 3)))] (.cond (.t 57) (sR [mV 58 6,oP 59 (.bin .leq (.t 58) (.c (.int .i64 1))),mV 60 59,⟨some 61,some (60,true),.mv (.t 6)⟩,⟨some 62,some (60,true),.bin .eql (.t 61) (.c i0)⟩,⟨some 63,some (60,true),.mv (.t 62)⟩,⟨some 64,some (63,false),.fad 1 (.t 5)⟩,⟨some 65,some (63,false),.ld 2 true (.t 64)⟩,⟨some 66,some (63,false),.fad 1 (.t 3)⟩,⟨some 67,some (63,false),.ld 2 true (.t 66)⟩,⟨some 68,some (63,false),.call 25 [.t 65,.t 67]⟩,⟨some 69,some (60,true),.pick (.t 63) (.c (.bool true)) (.t 68)⟩,oP 70 (.pick (.t 60) (.t 69) (.c (.bool false))),mV 2 70] .ret) .skip)) (sR [mV 71 6,oP 72 (.bin .eql (.t 71) (.c i0)),mV 73 72,⟨some 74,some (73,true),.fad 1 (.t 5)⟩,⟨some 75,some (73,true),.ld 2 true (.t 74)⟩,⟨some 76,some (73,true),.fad 1 (.t 3)⟩,⟨some 77,some (73,true),.ld 2 true (.t 76)⟩,⟨some 78,some (73,true),.call 25 [.t 75,.t 77]⟩,oP 79 (.pick (.t 73) (.t 78) (.c (.bool false))),mV 2 79] .ret))))))))
theorem dg5:Dg Tryz.prog 5 Tryz.f5 ic5 [(.t 2)]:=⟨Tryz.func5,by kernel_rfl,by kernel_rfl⟩
theorem c5 (code:B):FnR Tryz.prog G 5 [.sl 1 (code.map byR)] (.bool true):=by
  refine mF dg5 Tryz.ntmps5 ?_
  simp only [ic5,go_sem]
  by_cases hc:(1048576:Int)<code.length
  · simp only [eq_true hc,go_sem]
  simp only [eq_false hc,go_sem]
  refine callO (c19 code (by omega)) [] 13 0 (by simp only [go_sem];first|done|simp) (by simp) (by rintro _ _ ⟨_,_,_,_,_,rfl⟩;simp) (by intro i hi;omega) ?_
  rintro _ _ ⟨w,e,⟨hd,hz⟩,het,rfl,rfl⟩
  simp only [go_sem]
  have hq:worldOk w=true→∃ X,WX X w:=fun h=>(hd.q h).imp fun X hx=>hx.x
  have f1:=r20 w e hz.s hq (by omega)
  have f2:=r21 w e hz.s hq (by omega)
  have f3:=c22 w hz.s
  have f4:=c13 (worldDo w e) (do_wb hd e)
  cases hok:worldOk w with
  | false =>
    rw [hok] at f3
    generalize worldDo w e=x at *
    with_reducible repeat' (first|refine br ?_ ?_<;>intro h e<;>(try simp only [e,go_sem])<;>clear e|rw [i64w (by omega)]|refine sd ?_<;>try simp only [go_sem]|(first|refine cr (f1 ..) ?_|refine cr (f2 ..) ?_|refine cr (f3 ..) ?_|refine cr (f4 ..) ?_)<;>try simp only [go_sem]|fail)
  | true =>
    rw [hok] at f3
    obtain ⟨X,hx⟩:=hd.q hok
    have hxd:=hx.do e
    rw [(worldDo_e w e).1 hok] at f1 f2 f4
    obtain ⟨x,hxe⟩:∃ x,x=wDo w e:=⟨_,rfl⟩
    rw [← hxe] at f1 f2 f4 hxd
    obtain ⟨l1,⟨k,l2⟩,l3⟩:=law_apartW w e
    have l4:=(wDo_ext w e).len
    rw [← hxe] at l1 l2 l3 l4
    have hcl:=hx.x.cl
    have f5:=lzD hx.x
    clear hxe hq
    with_reducible repeat' (first|refine br ?_ ?_<;>intro h e<;>(try simp only [e,go_sem])<;>clear e|rw [i64w (by omega)]|refine sd ?_<;>try simp only [go_sem]|(first|refine cr (f1 ..) ?_|refine cr (f2 ..) ?_|refine cr (f3 ..) ?_|refine cr (f4 ..) ?_)<;>try simp only [go_sem]|fail)
    refine loopN (fun a:Nat × Nat=>⟨getL [(3,.pv 1003 0),(4,.pv 1004 0),(5,.pv 1005 0),(6,.int .i64 (a.2:Int)),(7,.int .i64 (a.1:Int))],getH [(1003,.var 33 [.sl 10 (w.convs.map Conv.row),.sl 3 (w.door.map.map Pair.row),.sl 8 (w.door.flows.map Flw.row),.sl 7 (w.nets.map Pk.row)]),(1004,.var 56 (Ev.row e)),(1005,.var 33 [.sl 10 (x.convs.map Conv.row),.sl 3 (x.door.map.map Pair.row),.sl 8 (x.door.flows.map Flw.row),.sl 7 (x.nets.map Pk.row)])]⟩) (fun a=>w.convs.length - a.1) (fun a=>a.1≤w.convs.length∧(a.2≤if k<a.1 then 1 else 0)∧(a.2≠0→x.convs≠w.convs)) (0,0) (leQ []) ⟨Nat.zero_le _,Nat.zero_le _,by simp⟩ ?_
    intro ⟨i,n⟩ ⟨hi,hn,hne⟩
    simp only at hi hn hne
    have hn1:n≤1:=by split at hn<;>omega
    simp only [go_sem]
    by_cases h:(i:Int)<w.convs.length
    · have hil:i<w.convs.length:=by omega
      have hil2:i<x.convs.length:=by omega
      have hg:w.convs.getD i default=w.convs[i]:=by simp [List.getD,hil]
      have hg2:x.convs.getD i default=x.convs[i]:=by simp [List.getD,hil2]
      have hsame:i≠k→x.convs[i]=w.convs[i]:=fun hik=>by
        have:=l2 i hik
        rw [List.getElem?_eq_getElem hil,List.getElem?_eq_getElem hil2] at this
        exact Option.some.inj this
      have hdiff:x.convs[i]≠w.convs[i]→x.convs≠w.convs:=fun hd he=>hd (by simp only [he])
      simp only [eq_true h,go_sem]
      have hnn:n≤if k<i+1 then 1 else 0:=by split at hn<;>split<;>omega
      by_cases hab:x.convs[i]=w.convs[i]
      · rw [hab] at hg2
        generalize w.convs[i]=a at *
        with_reducible repeat' (first|rw [i64w (by omega)];try simp only [go_sem,hg,hg2,getD_mp hil,getD_mp hil2,E.ext_iff']|refine br ?_ ?_<;>intro h e<;>(try simp only [e,go_sem,hg,hg2,getD_mp hil,getD_mp hil2,E.ext_iff'])<;>clear e|refine sd ?_<;>try simp only [go_sem,hg,hg2,getD_mp hil,getD_mp hil2,E.ext_iff']|fail)
        all_goals first
          | exact ⟨(i+1,n),by simp only;omega,⟨by simp only;omega,hnn,hne⟩,(leQ [])⟩
          | trace_state
      · have hik:i=k:=Decidable.byContradiction fun hik=>hab (hsame hik)
        have hd:=hdiff hab
        have hn0:n=0:=by rw [if_neg (by omega)] at hn;omega
        have hnn':n+1≤if k<i+1 then 1 else 0:=by rw [if_pos (by omega)];omega
        clear hdiff hsame
        generalize w.convs[i]=a at *
        generalize x.convs[i]=b at *
        with_reducible repeat' (first|rw [i64w (by omega)];try simp only [go_sem,hg,hg2,getD_mp hil,getD_mp hil2,E.ext_iff']|refine br ?_ ?_<;>intro h e<;>(try simp only [e,go_sem,hg,hg2,getD_mp hil,getD_mp hil2,E.ext_iff'])<;>clear e|refine sd ?_<;>try simp only [go_sem,hg,hg2,getD_mp hil,getD_mp hil2,E.ext_iff']|fail)
        all_goals first
          | exact ⟨(i+1,n),by simp only;omega,⟨by simp only;omega,hnn,hne⟩,(leQ [])⟩
          | exact ⟨(i+1,n+1),by simp only;omega,⟨by simp only;omega,hnn',fun _=>hd⟩,(leQ [])⟩
          | trace_state
    · simp only [eq_false h,go_sem]
      by_cases h3:e.kind=3
      · have hle:((n:Int)≤1)=True:=eq_true (by omega)
        rcases Nat.eq_zero_or_pos n with h0|h0
        · have hz0:((n:Int)=0)=True:=eq_true (by omega)
          simp only [eq_true h3,hle,hz0,go_sem]
          with_reducible repeat' (first|refine br ?_ ?_<;>intro h e<;>(try simp only [e,go_sem,hz0])<;>clear e|rw [i64w (by omega)]|refine sd ?_<;>try simp only [go_sem,hz0]|fail)
        · have hz0:((n:Int)=0)=False:=eq_false (by omega)
          have f6:=lzD2 hx.x (l3.resolve_left (hne (by omega)))
          simp only [eq_true h3,hle,hz0,go_sem]
          with_reducible repeat' (first|refine br ?_ ?_<;>intro h e<;>(try simp only [e,go_sem,hz0])<;>clear e|rw [i64w (by omega)]|refine sd ?_<;>try simp only [go_sem,hz0]|(first|refine cr (f6 ..) ?_)<;>try simp only [go_sem,hz0]|fail)
      · have hdo:=(l1 h3).2
        have h0:n=0:=Decidable.byContradiction fun h0=>hne h0 (l1 h3).1
        have hz0:((n:Int)=0)=True:=eq_true (by omega)
        have f6:=lzD2 hx.x hdo
        simp only [eq_false h3,hz0,go_sem]
        with_reducible repeat' (first|refine br ?_ ?_<;>intro h e<;>(try simp only [e,go_sem,hz0])<;>clear e|rw [i64w (by omega)]|refine sd ?_<;>try simp only [go_sem,hz0]|(first|refine cr (f6 ..) ?_)<;>try simp only [go_sem,hz0]|fail)
end Go.Proofs.YtggifndkolojmaaGreatDoor.W
namespace Go.Proofs.YtggifndkolojmaaGreatDoor.fnWorldApart
open Go Go.ChangeShapes Go.WideShapes Go.ChangeAt Go.RowKit Go.Proofs.YtggifndkolojmaaGreatDoor.W
theorem walk (v0:Value) (W:World) (hs:W.ShapedOpen Tryz.prog) (hL:laidMetH Tryz.prog Rows.fnWorldApartRow.laid W) (hv0:∃ code:M.B,VL.Den W noO noρ noH (.sl 1 (code.map M.byR)) v0) :
    Calls Tryz.prog 5 #[v0] W fun e W'=>e=.returned (.bool true)∧Below W.heap.size W W':=by
  obtain ⟨code,hdv0⟩:=hv0
  have:=Go.Proofs.YtggifndkolojmaaGreatDoor.W.FnR.calls (c5 code) (us:=[v0]) (gOk rfl hL hs) ⟨rfl,fun j a b ha hb=>by
    match j,ha,hb with
    | 0,ha,hb=>cases ha;cases hb;exact hdv0
    | j+1,ha,hb=>simp at ha⟩
  exact this
set_option maxRecDepth 100000 in
theorem contract (H:Type) (enc:TypeId × Value→H) (W:World) (base:Nat) (args:Array Value) (ds gs:List (DataW H)) (before:List MemPlace)
    (hval:∀ (j:Nat) t v,Tryz.f5.params[j]?=some t→args[j]?=some v→Value.okWide Tryz.prog W .any base t v)
    (hW:DataW.Whole enc Tryz.prog Tryz.f5.params.toList Rows.fnWorldApartSpec.vars false W args.toList ds gs before) (hL:laidMetH Tryz.prog Rows.fnWorldApartRow.laid W) (hs:W.ShapedOpen Tryz.prog) :
    Calls Tryz.prog 5 args W fun e W'=>∃ v,e=.returned v∧Rows.fnWorldApartSpec.post enc Tryz.prog Tryz.f5 false true false false W args v W':=by
  have hW':=hW
  obtain ⟨p,q,hA0,hV,rfl,hfz,hnd⟩:=hW
  have hA:DataW.TrodAll enc Tryz.prog W 0 (fun _=>true) true Tryz.f5.params.toList args.toList ds p:=hA0
  rw [Tryz.params5] at hA hval
  obtain ⟨v0,r0s,d0,d0s,p0,q0,hargs0,rfl,rfl,h0,r0⟩:=trodAll_cons hA
  obtain ⟨e1,e2,e3⟩:=trodAll_nil r0
  subst e1 e2 e3
  obtain rfl:args=#[v0]:=by cases args;simp_all
  obtain ⟨rfl,rfl⟩:=trodVars_none hV
  obtain ⟨a0,len0,cap0,hv0⟩:=okWide_slice Tryz.underlying22 (hval 0 22 v0 rfl rfl)
  have k0:=h0
  have lt0:∀ x∈p0,x.block<W.heap.size:=by obtain ⟨m,hm⟩:=k0;exact DataW.trod_lt m _ _ _ hm
  have hc0:=open_code h0 ⟨a0,len0,cap0,hv0⟩
  clear hA0
  refine (walk v0 W hs hL hc0).mono fun e W' ⟨he,bel⟩=>?_
  subst he
  exact ⟨_,rfl,_,_,_,[],_,[],hW',trodAll_mk1 (shut_bool Tryz.underlying4 _),(trodAll_cons_mk (Below.trod laidOut (by kernel_rfl) (of_decide_eq_true (by kernel_rfl)) k0 bel lt0) trodAll_mk0),rfl,bel.frame _,fun h=>by cases h⟩
theorem inP:(Rows.fnWorldApartRow.inPlace == Tryz.prog.inPlace 5)=true:=by kernel_rfl
theorem unf:(Rows.fnWorldApartRow.unfollowed == Tryz.prog.unfollowed 5)=true:=by kernel_rfl
theorem rcs:(Rows.fnWorldApartRow.recurses == Tryz.prog.recurses 5)=true:=by kernel_rfl
theorem nam:(Rows.fnWorldApartRow.named == Tryz.prog.varsNamed 5)=true:=by kernel_rfl
theorem lif:(Rows.fnWorldApartRow.lifted == Tryz.prog.liftsFinal)=true:=lifF
theorem pke:(Rows.fnWorldApartRow.plainKeys == Tryz.prog.plainKeys)=true:=pkeF
theorem mak:(Tryz.prog.make == some Rows.fnWorldApartRow.make)=true:=makF
theorem closed0:joinedFacts Tryz.prog 5 Tryz.f5 Rows.fnWorldApartSpec Rows.fnWorldApartRow=true:=by
  unfold joinedFacts
  rw [laidOut,mapF,inP,unf,rcs,nam,pke,stoF,mayF,lif,mak]
  kernel_rfl
theorem closed:joinedFacts Tryz.pinned.checked.prog 5 Tryz.f5 (OpenSpec.ofChange Rows.fnWorldApartSpec).bare Rows.fnWorldApartRow=true :=
  (show joinedFacts Tryz.pinned.checked.prog 5 Tryz.f5 (OpenSpec.ofChange Rows.fnWorldApartSpec).bare Rows.fnWorldApartRow=joinedFacts Tryz.prog 5 Tryz.f5 Rows.fnWorldApartSpec Rows.fnWorldApartRow by kernel_rfl).trans closed0
theorem door_met (os:Os) (args:Array Value):laidMetH Tryz.prog Rows.fnWorldApartRow.laid ((World.doorLaid Tryz.prog 400 os).forCall (fun _ _=>0) ⟨#[],args,[]⟩).memory :=
  laidMetH_of_parts3 (fuel:=8) (laidMet_of_run' 8 (by kernel_rfl) (by kernel_rfl)) (by kernel_rfl) (by kernel_rfl)
theorem reads (os:Os) {H:Type} (enc:TypeId × Value→H):∃ places,DataW.whole enc Tryz.prog ((World.doorLaid Tryz.prog 400 os).forCall (fun _ _=>0) ⟨#[],#[.slice none 0 0],[]⟩).memory Tryz.f5.params.toList Rows.fnWorldApartSpec.vars false #[Value.slice none 0 0].toList 8=some ([.nil],[],places) :=
  ⟨[],by kernel_rfl⟩
set_option maxRecDepth 100000 in
theorem lifted (os:Os) (started:os.Started) (H:Type) (enc:TypeId × Value→H) (F:Stop.Interp) :
    ReturnsInHanded {} Tryz.checked os 5 .any ((OpenSpec.ofChange Rows.fnWorldApartSpec).preRow enc Tryz.prog Tryz.f5 Rows.fnWorldApartRow.domain false Rows.fnWorldApartRow.laid) (((OpenSpec.ofChange Rows.fnWorldApartSpec).at F).post enc Tryz.prog Tryz.f5 false true false false):=by
  obtain ⟨places,hx⟩:=reads os enc
  refine returnsInHanded_of_row (C:=Tryz.checked) (s:=OpenSpec.ofChange Rows.fnWorldApartSpec) own started (by kernel_rfl) Tryz.func5
    (witness_row_atRef (enc:=enc) (C:=Tryz.checked) false (World.doorLaid Tryz.prog 400 os) #[.slice none 0 0] rfl (by kernel_rfl) (by kernel_rfl) (by kernel_rfl)
      (OpenSpec.preRow_of_cond 8 hx (by kernel_rfl) (fun k hk=>by cases hk) (by kernel_rfl) (door_met os _))) ?_
  intro W base args ds gs before hval hW _ _ _ hL hs _
  exact contract H enc W base args ds gs before hval hW hL hs
theorem said:Rows.FnWorldApartSaid :=
  OpenClaim.holds_of_cond 5 Tryz.f5 rfl rfl rfl rfl rfl rfl rfl ⟨rfl,rfl,rfl,rfl,rfl⟩ rfl rfl rfl rfl rfl (by kernel_rfl) Tryz.func5 closed
    (of_decide_eq_true (by kernel_rfl)) (by unfold Func.isWrapper;first|(rw [if_pos (by decide +kernel)];kernel_rfl)|(rw [if_neg (by decide +kernel)];exact ⟨rfl,rfl⟩))
    (fun os started H enc _ F=>by rw [OpenClaim.pre_eq_preRow];exact lifted os started H enc F)
theorem plain (f:FuncId) (fn:Func) (hf:Tryz.pinned.checked.prog.funcNamed "loop.example/ostiary/laws.FnWorldApart"=some f) (hfn:Tryz.pinned.checked.prog.funcs[f]?=some fn) :
    true=Tryz.pinned.checked.prog.looks []∧∀ (j:Nat) t,fn.params[j]?=some t→Tryz.pinned.checked.prog.wantsStandIn t=false:=by
  obtain rfl:f=5:=Option.some.inj ((show Tryz.prog.funcNamed "loop.example/ostiary/laws.FnWorldApart"=some 5 by kernel_rfl).symm.trans hf) |>.symm
  obtain rfl:fn=Tryz.f5:=(Option.some.inj (Tryz.func5.symm.trans hfn)).symm
  refine ⟨by kernel_rfl,fun j t ht=>?_⟩
  rw [Tryz.params5] at ht
  obtain rfl:t=22:=by simpa using Array.mem_of_getElem? ht
  exact (show Tryz.prog.wantsStandIn 22=false by kernel_rfl)
theorem card:Rows.FnWorldApartCardSaid :=
  Claim7.holds_tied_plain_at .later [] _ _ _ _ said (fun _ h=>by cases h) (by kernel_rfl) (fun _ h=>by cases h) fnWorldApart_row_tie rfl ⟨rfl,rfl⟩ (by kernel_rfl) rfl plain (by kernel_rfl)
end Go.Proofs.YtggifndkolojmaaGreatDoor.fnWorldApart
