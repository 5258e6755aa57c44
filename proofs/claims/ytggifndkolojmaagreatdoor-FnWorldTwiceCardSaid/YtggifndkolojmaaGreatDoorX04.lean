/- Part 4 of the proof: the walk over values, the plain model, contracts of the functions of the program. -/
import Derived.Test.YtggifndkolojmaaGreatDoorX03
import Derived.Test.YtggifndkolojmaaGreatDoorX02
import Derived.Test.YtggifndkolojmaaGreatDoorRows
import Derived.WalkKit
import Derived.ProofKit
import Derived.OpenShut
import Derived.ShutString
import Derived.ChangeOld
import Derived.Below
import Derived.Carry
import Derived.LaidMore
import Derived.LaidHandle
import Derived.Stop.LaidErr
import Derived.Stop.Joined
import Derived.Deep.DeepHandedRow
import Derived.Deep.DeepWitnessRowRef
import Derived.Shelf.Vars
import Derived.Deep.LoopGhost
import Derived.Shelf.Strings.OnBuilder
set_option linter.all false
namespace Go.Proofs.YtggifndkolojmaaGreatDoor.W
open Go Go.RowKit Go.Proofs Go.Proofs.YtggifndkolojmaaGreatDoor.VL Go.Proofs.YtggifndkolojmaaGreatDoor.M
attribute [local congr] optK_congr guardK_congr condK_congr runT_congr runD_congr wpI_congr CallV_congr LoopI_congr pureK_congr effK_congr calK_congr stepV_congr doV_congr exN_congr exB_congr retF_congr retQ_congr gK_congr condW_congr ldK_congr stoK_congr
attribute [local go_sem] argL_cons argL_nil argH_nil argH_cons chH_getH wpI_seq wpI_reg wpI_drw wpI_ret cond_k condW_t condW_f wpI_skip wpI_block wpI_exit wpI_loop exN_n exN_r exN_e exB_n exB_r exB_h exB_m runT_k kT_e runT_nil runD_k kD_e runD_nil step_u step_k gK_t gK_f do_mv do_bino bo_add bo_sub bo_mul bo_subu bo_quo bo_rem bo_xor bo_eql bo_neq bo_lss bo_leq bo_gtr bo_geq bo_cat bo_eqs bo_nes do_pick do_call do_cal calK_f do_box do_alloc do_ldk ldK_s do_stok stoK_s do_fad do_nilc do_not do_neg do_len do_lens do_ext do_eqs do_beq do_isn do_cvi do_sls do_idx do_mn do_mx do_build do_mkf do_s2b do_b2s do_slv do_iad do_bsl do_mks do_app ev_t ev_c app_some app_none
attribute [local go_sem] List.nil_append List.cons_append List.append_nil getL_hit getL_miss getH_nil getH_hit getH_miss nm_eq ne_eq Nat.reduceEqDiff not_false_eq_true Nat.reduceAdd Nat.add_zero Nat.zero_add if_true if_false ite_true ite_false pureK_s effK_s optK_s gdV_t gdV_f gdV_s pick_b ge_iff_le gt_iff_lt cond_true cond_false fresh_k cells_agg cells_int cells_bool cells_str cells_own cells_sl cells_nils ld_pv ld_pa ld_ip ldVar_t ldVar_f ldArr_t ldArr_f ldRow_t ldRow_f ldA_s ld1_s fad_pv fad_pa fad_ip nilc_pv nilc_pa nilc_ip not_b neg_i cvi_i ext_t retF_n retF_r
attribute [local go_sem] resV_k rvs_nil rvs_t rvs_c fstO_s consO_s resK_s resL_1 resL_2 resL_3 resL_4  Option.some.injEq List.map_cons List.map_nil List.all_cons List.all_nil Bool.and_true Bool.and_self Bool.not_true Bool.not_false Option.map_some Option.map_none sls_s slsG_s loV_n loV_i hiV_n hiV_i idx_s mn_i mx_i s2b_s b2s_s bytO_s bytes_nil bytes_cons conB_s slv_sl slv_own slv_nils slvG_s slvN_s slvO_s iad_sl iadG_map take_map drop_map List.length_map iad_own iad_view iadO_a iadW_a mks_i rowO_nils rowO_sl rowO_own rowA_a eq_self appG_nils appG_own appO_a guardP_T mapA_s bld_nil mkf_nil bldF_e fill_nil fill_cons mkf_e lens_s len_nils len_sl len_own len_view isn_nile isn_erre List.getElem?_cons_zero List.getElem?_cons_succ List.length_cons List.length_nil decide_true decide_false Int.toNat_natCast Int.cast_ofNat_Int Int.reduceLT Int.reduceLE Int.reduceEq Int.reduceAdd Int.reduceSub Int.reduceMul Int.reduceNeg Int.reduceToNat List.getD_cons_zero List.getD_cons_succ not_true_eq_false not_false_eq_true Bool.false_eq_true Bool.true_eq_false reduceCtorEq
attribute [local go_sem] E.row Pc.row Pair.row Part.row Strm.row Flw.row Pk.row Door.row Conv.row World.row Ev.row rdV E.eta Pc.eta Pair.eta Part.eta Strm.eta Pk.eta Flw.eta Conv.eta Door.eta World.eta Ev.eta
attribute [local go_sem] sub_ok st_pv st_pa stVar_v stArr_a Nat.le_refl List.drop_zero List.drop_succ_cons List.take_succ_cons List.take_zero setR Nat.reduceLeDiff
attribute [local go_sem] wk_bot wk2_bot wk1_bot wk_undef wk_tup_e wk2_agg_e wk_agg_e wk1_fn_e wk2_fn_e wk_fn_e wkl_nil wkl_cons wkh_var_e wkh_arr_e wkh_fresh_e wkh_dead_v wkh_dead_a wkh_dead_d wk0_undef wk0_int wk0_bool wk0_str wk0_nils wk0_nils_sl wk0_nilp wk0_nile wk0_erre wk0_sl wk0_iptr wk0_own wk0_view wk0_pv wk0_pa fzA_a fzW_a fzP_v wk0_own_sl wk0_view_sl wk0_pv_iptr WkS_nil WkS_cons WkN_nil WkN_cons nonB_nil nonB_cons getN_nil getN_hit getN_miss pinOk_0 pinOk_s and_true true_and and_self
attribute [local go_sem] bot_int one_int unt_int clo_int bot_bool one_bool unt_bool clo_bool bot_str one_str unt_str clo_str bot_nils one_nils unt_nils clo_nils bot_nilp one_nilp unt_nilp clo_nilp bot_nile one_nile unt_nile clo_nile bot_erre one_erre unt_erre clo_erre bot_raw one_raw unt_raw clo_raw bot_sl one_sl unt_sl clo_sl bot_own one_own unt_own clo_own bot_view one_view unt_view clo_view bot_pv one_pv unt_pv clo_pv bot_pa one_pa unt_pa clo_pa bot_iptr one_iptr unt_iptr clo_iptr unt_agg unt_fn one_fn
attribute [local go_sem] rn_tup rn_agg rn2_agg rn_fn rn2_fn rnfn1 rn_bot rn2_bot rn1_bot rn0_int rn0_bool rn0_str rn0_nils rn0_nilp rn0_nile rn0_erre rn0_sl rn0_iptr rn0_own rn0_view rn0_pv rn0_pa hrn_var hrn_arr hrn_dead outU_nil outU_cons deads_nil deads_cons bk_ge bk_lt nsF_0 nsF_s chH_0 chH_s chH_n newN_e andB_s eqR_nil eqR_i eqR_b eqR_s mapX_f mapX_t eqs_a beq_f beq_t live_arr live_var nsl_nil nsl_cons Nat.reduceMul Nat.reduceLT Nat.zero_le Nat.not_lt_zero
attribute [local go_sem] mV lD lA fD bN eX oP nP sR i0 s0
def ic45:IC:=sR [oP 8 (.mv (.c .nils)),oP 9 (.mv (.c .nils))] (sR [mV 15 1,oP 16 (.len (.t 15)),oP 17 (.mks 9 1 (.t 16)),mV 10 17] (.seq (sR [mV 18 1,oP 19 (.len (.t 18)),oP 20 (.mv (.c i0))] (.block 0 (.loop (sR [bN 21 .lss 20 19] (.seq (.cond (.t 21) .skip (.exit 0)) (.seq (.block 1 (sR [oP 22 (.iad 4 (.t 18) (.t 20)),lA 23 4 22,oP 12 (.alloc 127 [i0,.bool false,i0,i0]),nP (.sto 4 (.t 12) (.t 23))] (.seq (.drw [0,0,0,0,8,28,0,127,255,511,511,1023,4095] [(0,mV 25 0),(1,lA 26 4 12),(2,mV 27 2),(3,fD 28 0 12),(4,lD 29 1 28),(5,oP 30 (.sls (.t 27) none (some (.t 29)))),(6,mV 31 3),(7,oP 32 (.call 94 [.t 25,.t 26,.t 30,.t 31])),(8,mV 24 32),(9,eX 33 24 0),(10,eX 34 24 1),(11,mV 13 33),(12,mV 14 34)]) (sR [mV 35 13,mV 0 35] (sR [mV 36 10,mV 37 14,oP 38 (.call 95 [.t 37]),oP 39 (.bsl 9 1 [.t 38]),oP 40 (.app 9 1 (.t 36) (.t 39)),mV 10 40] (.reg [mV 41 2,fD 42 0 12,lD 43 1 42,oP 44 (.sls (.t 41) (some (.t 43)) none),mV 2 44])))))) (.reg [oP 45 (.bin .add (.t 20) (.c (.int .i64 1))),mV 20 45]))))))) (sR [mV 46 0,mV 47 10,mV 8 46,mV 9 47] .ret)))
theorem dg45:Dg Tryz.prog 45 Tryz.f45 ic45 [(.t 8),(.t 9)]:=⟨Tryz.func45,by kernel_rfl,by kernel_rfl⟩
theorem c45 (m:List Pair) (l:List Pc) (s:B) (out:Bool) (hp:PortsOk m) (hm:m.length≤100) (hl:l.length≤1000) (hs:s.length≤1000) (hf:fits l s) :
    FnR Tryz.prog G 45 [.sl 3 (m.map Pair.row),.sl 4 (l.map Pc.row),.str s,.bool out] (.tup [.sl 3 ((turned m l s out).1.map Pair.row),.sl 1 ((turned m l s out).2.map fun x=>[.str x])]):=by
  refine mF dg45 Tryz.ntmps45 ?_
  simp only [ic45,go_sem]
  with_reducible repeat' (first|refine br ?_ ?_<;>intro h e<;>(try simp only [e,go_sem])<;>clear e|rw [i64w (by omega)]|refine sd ?_<;>try simp only [go_sem]|fail)
  refine loopN (fun a:List Pair × B × List B × Nat=>⟨getL [(0,.sl 3 (a.1.map Pair.row)),(2,.str a.2.1),(3,.bool out),(10,.own 1017 a.2.2.1.length),(18,.sl 4 (l.map Pc.row)),(19,.int .i64 l.length),(20,.int .i64 (a.2.2.2:Int))],getH [(1017,.arr 9 1 (a.2.2.1.map fun x=>[.str x]))]⟩)
    (fun a=>l.length - a.2.2.2) (fun a=>a.2.2.2≤l.length∧PortsOk a.1∧a.1.length≤m.length+a.2.2.2∧a.2.1.length≤1000∧a.2.2.1.length=a.2.2.2∧fits (l.drop a.2.2.2) a.2.1 ∧
      turned m l s out=((turned a.1 (l.drop a.2.2.2) a.2.1 out).1,a.2.2.1++(turned a.1 (l.drop a.2.2.2) a.2.1 out).2)) (m,s,[],0)
    (leN [] (by simp only [go_sem];first|done|rfl) (by simp only [go_sem];first|done|rfl) (by simp [getN]) (by simp only [go_sem])) ⟨by simp,hp,by simp,hs,rfl,by simpa using hf,by simp⟩ ?_
  intro ⟨mm,ss,ts,i⟩ ⟨h1,h2,h3,h4,h5,h6,h7⟩
  simp only at h1 h2 h3 h4 h5 h6 h7
  simp only [go_sem]
  by_cases h:(i:Int)<l.length
  · have hil:i<l.length:=by omega
    have hg:l.getD i default=l[i]:=by simp [List.getD,hil]
    rw [List.drop_eq_getElem_cons hil] at h6 h7
    generalize hq:l[i]=q at *
    simp only [eq_true h,go_sem]
    refine effG (by omega) ?_
    simp only [hg,go_sem]
    obtain ⟨f1,f2⟩:=h6
    with_reducible repeat' (first|refine br ?_ ?_<;>intro h e<;>(try simp only [e,go_sem])<;>clear e|rw [i64w (by omega)]|refine sd ?_<;>try simp only [go_sem]|fail)
    have ht:=turn_len mm q (ss.take q.size) out
    simp only [List.length_take] at ht
    refine callR (c94 mm q.size q.named q.e.a q.e.p _ out h2 (by omega)) rfl rfl ?_
    simp only [go_sem]
    have h2':=h2.turn q (ss.take q.size) out
    generalize htt:turn mm q (ss.take q.size) out=r at *
    with_reducible repeat' (first|refine br ?_ ?_<;>intro h e<;>(try simp only [e,go_sem])<;>clear e|rw [i64w (by omega)]|refine sd ?_<;>try simp only [go_sem]|(first|refine cr (c95 ..) ?_)<;>try simp only [go_sem]|fail)
    refine ⟨(r.1,ss.drop q.size,ts++[r.2],i+1),by simp;omega,⟨by simp;omega,h2',by simp;omega,by simp;omega,by simp;omega,f2, ?_⟩,leN [(1017,1040)] ?_ ?_ (by simp [getN]) (by simp only [go_sem])⟩
    · rw [h7];simp [turned,htt]
    · simp only [go_sem];simp
    · simp only [go_sem];simp
  · simp only [eq_false h,go_sem]
    have:i=l.length:=by omega
    subst this
    rw [h7]
    simp [turned]
def ic107:IC:=sR [oP 2 (.mv (.c (.bool false)))] (.seq (sR [oP 3 (.mv (.c i0))] (.block 0 (.loop (.seq (sR [mV 5 3,mV 6 0,oP 7 (.len (.t 6)),bN 8 .lss 5 7] (.cond (.t 8) .skip (.exit 0))) (.seq (.block 1 (.seq (sR [mV 11 0,mV 12 3,oP 13 (.iad 3 (.t 11) (.t 12)),fD 14 0 13,lD 15 1 14,mV 16 3,oP 17 (.bin .add (.c (.int .i64 10)) (.t 16)),bN 18 .neq 15 17,mV 19 18,⟨some 20,some (19,false),.mv (.t 0)⟩,⟨some 21,some (19,false),.mv (.t 3)⟩,⟨some 22,some (19,false),.iad 3 (.t 20) (.t 21)⟩,⟨some 23,some (19,false),.fad 1 (.t 22)⟩,⟨some 24,some (19,false),.ld 2 true (.t 23)⟩,⟨some 25,some (19,false),.call 127 [.t 24]⟩,⟨some 26,some (19,false),.un .not (.t 25)⟩,oP 27 (.pick (.t 19) (.c (.bool true)) (.t 26))] (.cond (.t 27) (sR [oP 2 (.mv (.c (.bool false)))] .ret) .skip)) (sR [oP 4 (.mv (.c i0))] (.block 2 (.loop (.seq (sR [mV 28 4,mV 29 3,bN 30 .lss 28 29] (.cond (.t 30) .skip (.exit 2))) (.seq (.block 3 (.seq (.drw [0,0,3,7,15,0,0,96,224,480,1023] [(0,mV 33 0),(1,mV 34 4),(2,oP 35 (.iad 3 (.t 33) (.t 34))),(3,fD 36 1 35),(4,lA 37 2 36),(5,mV 38 0),(6,mV 39 3),(7,oP 40 (.iad 3 (.t 38) (.t 39))),(8,fD 41 1 40),(9,lA 42 2 41),(10,oP 43 (.eqs false [.i,.i] (.t 37) (.t 42)))]) (.cond (.t 43) (sR [oP 2 (.mv (.c (.bool false)))] .ret) .skip))) (.reg [mV 31 4,oP 32 (.bin .add (.t 31) (.c (.int .i64 1))),mV 4 32])))))))) (.reg [mV 9 3,oP 10 (.bin .add (.t 9) (.c (.int .i64 1))),mV 3 10])))))) (sR [mV 44 0,oP 45 (.len (.t 44)),oP 46 (.bin .leq (.t 45) (.c (.int .i64 8))),mV 2 46] .ret))
theorem dg107:Dg Tryz.prog 107 Tryz.f107 ic107 [(.t 2)]:=⟨Tryz.func107,by kernel_rfl,by kernel_rfl⟩
theorem c107 (m:List Pair) (hl:m.length≤2000000:=by omega):FnR Tryz.prog G 107 [.sl 3 (m.map Pair.row)] (.bool (mapOk m)):=by
  refine mF dg107 Tryz.ntmps107 ?_
  simp only [ic107,go_sem]
  refine loopN (fun i:Nat=>⟨getL [(0,.sl 3 (m.map Pair.row)),(3,.int .i64 (i:Int))],getH []⟩) (fun i=>m.length - i) (fun i=>i≤m.length∧∀ j,j<i→okPair m j=true) 0 (leQ []) ⟨Nat.zero_le _,by omega⟩ ?_
  intro i ⟨hi,ha⟩
  simp only [go_sem]
  by_cases h:(i:Int)<m.length
  · simp only [eq_true h,go_sem]
    refine effG (by omega) ?_
    have hil:i<m.length:=by omega
    have hg:m.getD i default=m[i]:=by simp [List.getD,hil]
    have hok:=okPair_i hil
    simp only [hg,go_sem]
    have hw:IntKind.i64.wrap (10+(i:Int))=10+i:=i64w (by omega)
    simp only [hw]
    with_reducible repeat' (first|refine br ?_ ?_<;>intro h e<;>(try simp only [e,go_sem,hg])<;>clear e|rw [i64w (by omega)]|refine sd ?_<;>try simp only [go_sem,hg]|(first|refine cr (c127 ..) ?_)<;>try simp only [go_sem,hg]|fail)
    · exact mapOk_bad hil (by rw [hok];simp at h;simp [h])
    · rename_i h1
      have h1':m[i].port=10+(i:Int):=by simpa using h1
      rw [h1',h] at hok
      refine loopN (fun k:Nat=>⟨getL [(0,.sl 3 (m.map Pair.row)),(3,.int .i64 (i:Int)),(4,.int .i64 (k:Int))],getH []⟩) (fun k=>i - k) (fun k=>k≤i∧((m.take k).any fun q=>decide (q.ins=m[i].ins))=false) 0 (leQ []) ⟨Nat.zero_le _,by simp⟩ ?_
      intro k ⟨hk,hka⟩
      simp only [go_sem]
      by_cases hki:(k:Int)<i
      · have hkl:k<m.length:=by omega
        have hgk:m.getD k default=m[k]:=by simp [List.getD,hkl]
        have hst:((m.take (k+1)).any fun q=>decide (q.ins=m[i].ins))=(((m.take k).any fun q=>decide (q.ins=m[i].ins)) || decide (m[k].ins=m[i].ins)):=by
          rw [List.take_add_one,List.getElem?_eq_getElem hkl]
          simp only [Option.toList_some,List.any_append,List.any_cons,List.any_nil,Bool.or_false]
        simp only [eq_true hki,go_sem,hgk,hg,E.ext_iff']
        with_reducible repeat' (first|refine br ?_ ?_<;>intro h e<;>(try simp only [e,go_sem,hgk,hg,E.ext_iff'])<;>clear e|rw [i64w (by omega)]|refine sd ?_<;>try simp only [go_sem,hgk,hg,E.ext_iff']|fail)
        · refine mapOk_bad hil ?_
          rw [hok]
          have:((m.take i).any fun q=>decide (q.ins=m[i].ins))=true:=by
            rw [List.any_eq_true]
            refine ⟨m[k], ?_,by simpa using h⟩
            rw [List.mem_iff_getElem?]
            exact ⟨k,by rw [List.getElem?_take,if_pos (by omega),List.getElem?_eq_getElem hkl]⟩
          simp [this]
        · refine ⟨k+1,by omega,⟨by omega, ?_⟩,(leQ [])⟩
          rw [hst,hka];simpa using h
      · simp only [eq_false hki,go_sem]
        have:k=i:=by omega
        subst this
        rw [hka] at hok
        with_reducible repeat' (first|refine br ?_ ?_<;>intro h e<;>(try simp only [e,go_sem])<;>clear e|rw [i64w (by omega)]|refine sd ?_<;>try simp only [go_sem]|fail)
        refine ⟨k+1,by omega,⟨by omega,fun j hj=>?_⟩,(leQ [])⟩
        rcases Nat.lt_or_ge j k with hji|hji
        · exact ha j hji
        · obtain rfl:j=k:=by omega
          rw [hok];simp
    · exact mapOk_bad hil (by rw [hok];simp [h])
  · simp only [eq_false h,go_sem]
    have:i=m.length:=by omega
    subst this
    have:(List.range m.length).all (okPair m)=true:=by
      rw [List.all_eq_true];intro j hj;exact ha j (List.mem_range.1 hj)
    simp only [mapOk,this,Bool.true_and]
    apply decide_eq_decide.2;omega
def ic161:IC:=sR [oP 6 (.mv (.c s0)),oP 7 (.mv (.c (.bool false)))] (.seq (sR [mV 8 1,mV 9 0,oP 10 (.lens (.t 9)),bN 11 .gtr 8 10,mV 12 11,⟨some 13,some (12,false),.mv (.t 1)⟩,⟨some 14,some (12,false),.mv (.t 2)⟩,⟨some 15,some (12,false),.lens (.t 14)⟩,⟨some 16,some (12,false),.bin .add (.t 13) (.t 15)⟩,⟨some 17,some (12,false),.bin .gtr (.t 16) (.c (.int .i64 40))⟩,oP 18 (.pick (.t 12) (.c (.bool true)) (.t 17))] (.cond (.t 18) (sR [mV 19 0,mV 6 19,oP 7 (.mv (.c (.bool false)))] .ret) .skip)) (.seq (sR [mV 20 1,mV 21 2,oP 22 (.lens (.t 21)),bN 23 .add 20 22,mV 24 0,oP 25 (.lens (.t 24)),bN 26 .leq 23 25] (.cond (.t 26) (sR [mV 27 0,mV 6 27,oP 7 (.mv (.c (.bool true)))] .ret) .skip)) (sR [mV 28 0,mV 29 2,mV 30 0,oP 31 (.lens (.t 30)),mV 32 1,bN 33 .sub 31 32,oP 34 (.sls (.t 29) (some (.t 33)) none),bN 35 .add 28 34,mV 6 35,oP 7 (.mv (.c (.bool true)))] .ret)))
theorem dg161:Dg Tryz.prog 161 Tryz.f161 ic161 [(.t 6),(.t 7)]:=⟨Tryz.func161,by kernel_rfl,by kernel_rfl⟩
theorem c161 (came:B) (n:Int) (text:B) (hn:0≤n∧n≤1000) (hc:came.length≤1000) (ht:text.length≤1000):FnR Tryz.prog G 161 [.str came,.int .i64 n,.str text] (.tup [.str (behind came n text).1,.bool (behind came n text).2]):=by
  refine mF dg161 Tryz.ntmps161 ?_
  simp only [ic161,go_sem]
  with_reducible repeat' (first|rw [i64w (by omega)];try simp only [go_sem]|refine br ?_ ?_<;>intro h e<;>(try simp only [e,go_sem])<;>clear e|refine sd ?_<;>try simp only [go_sem]|fail)
  · have:behind came n text=(came,false):=by
      unfold behind;rw [if_pos (by simp;omega)]
    rw [this];exact ⟨rfl,rfl⟩
  · have:behind came n text=(came,false):=by
      unfold behind;rw [if_pos (by simp;omega)]
    rw [this];exact ⟨rfl,rfl⟩
  · have:behind came n text=(came,true):=by
      unfold behind;rw [if_neg (by simp;omega),if_pos (by omega)]
    rw [this];exact ⟨rfl,rfl⟩
  · refine pureG (by simp;omega) ?_
    simp only [go_sem]
    have:behind came n text=(came++text.drop (came.length - n).toNat,true):=by
      unfold behind;rw [if_neg (by simp;omega),if_neg (by omega)]
    rw [this,List.take_length];exact ⟨rfl,rfl⟩
def ic88:IC:=sR [oP 2 (.box 125 (.t 0)),oP 3 (.box 127 (.t 1)),oP 4 (.mv (.c (.bool false)))] (sR [fD 5 0 2,lD 6 1 5,fD 7 0 3,lD 8 1 7,bN 9 .eql 6 8,mV 10 9,⟨some 11,some (10,true),.fad 1 (.t 2)⟩,⟨some 12,some (10,true),.ld 1 false (.t 11)⟩,⟨some 13,some (10,true),.lens (.t 12)⟩,⟨some 14,some (10,true),.call 38 [.t 13,.c (.int .i64 1),.c (.int .i64 6)]⟩,oP 15 (.pick (.t 10) (.t 14) (.c (.bool false))),mV 16 15,⟨some 17,some (16,true),.fad 1 (.t 2)⟩,⟨some 18,some (16,true),.ld 1 false (.t 17)⟩,⟨some 19,some (16,true),.call 44 [.t 18]⟩,oP 20 (.pick (.t 16) (.t 19) (.c (.bool false))),mV 4 20] .ret)
theorem dg88:Dg Tryz.prog 88 Tryz.f88 ic88 [(.t 4)]:=⟨Tryz.func88,by kernel_rfl,by kernel_rfl⟩
theorem c88 (n:Int) (t:B) (k:Nat) (b:Bool) (x y:Int) (ht:t.length≤2000000):FnR Tryz.prog G 88 [.agg [.int .i64 n,.str t],.agg [.int .i64 k,.bool b,.int .i64 x,.int .i64 y]] (.bool (okPart ⟨n,t⟩ ⟨k,b,⟨x,y⟩⟩)):=by
  refine mF dg88 Tryz.ntmps88 ?_
  simp only [ic88,go_sem]
  with_reducible repeat' (first|refine br ?_ ?_<;>intro h e<;>(try simp only [e,go_sem])<;>clear e|rw [i64w (by omega)]|refine sd ?_<;>try simp only [go_sem]|(first|refine cr (c38 ..) ?_|refine cr (c44 ..) ?_)<;>try simp only [go_sem]|fail)
  all_goals simp [okPart, *]
theorem okParts_drop {ps:List Part} {qs:List Pc} {i:Nat} (h:i<ps.length) (hl:ps.length=qs.length):okParts (ps.drop i) (qs.drop i)=(okPart (ps.getD i default) (qs.getD i default) && okParts (ps.drop (i+1)) (qs.drop (i+1))):=by
  rw [List.drop_eq_getElem_cons h,List.drop_eq_getElem_cons (show i<qs.length by omega)]
  simp [okParts,List.getD,h,show i<qs.length by omega]
theorem okParts_ne:∀ {ps:List Part} {qs:List Pc},ps.length≠qs.length→okParts ps qs=false:=fun {ps qs} h=>by
  cases hc:okParts ps qs with
  | false=>rfl
  | true=>exact absurd (okParts_len hc) h
def ic87:IC:=sR [oP 6 (.mv (.c (.bool false)))] (.seq (sR [mV 10 0,oP 11 (.len (.t 10)),mV 12 1,oP 13 (.len (.t 12)),bN 14 .neq 11 13] (.cond (.t 14) (sR [oP 6 (.mv (.c (.bool false)))] .ret) .skip)) (.seq (sR [mV 15 0,oP 16 (.len (.t 15)),oP 17 (.mv (.c i0))] (.block 0 (.loop (sR [bN 18 .lss 17 16] (.seq (.cond (.t 18) .skip (.exit 0)) (.seq (.block 1 (sR [mV 19 17,oP 20 (.iad 2 (.t 15) (.t 17)),lA 21 2 20,oP 8 (.alloc 125 [i0,s0]),mV 7 19,nP (.sto 2 (.t 8) (.t 21))] (sR [mV 22 1,mV 23 7,oP 24 (.iad 4 (.t 22) (.t 23)),lA 25 4 24,oP 9 (.alloc 127 [i0,.bool false,i0,i0]),nP (.sto 4 (.t 9) (.t 25))] (sR [mV 26 2,lA 27 2 8,lA 28 4 9,oP 29 (.cal (.t 26) [.t 27,.t 28]),oP 30 (.un .not (.t 29))] (.cond (.t 30) (sR [oP 6 (.mv (.c (.bool false)))] .ret) .skip))))) (.reg [oP 31 (.bin .add (.t 17) (.c (.int .i64 1))),mV 17 31]))))))) (sR [oP 6 (.mv (.c (.bool true)))] .ret)))
theorem dg87:Dg Tryz.prog 87 Tryz.f87 ic87 [(.t 6)]:=⟨Tryz.func87,by kernel_rfl,by kernel_rfl⟩
theorem c87 (ps:List Part) (qs:List Pc) (hp:ps.length≤2000000) (hq:qs.length≤2000000) (ht:∀ p∈ps,p.text.length≤2000000) :
    FnR Tryz.prog G 87 [.sl 2 (ps.map Part.row),.sl 4 (qs.map Pc.row),.fn 88 []] (.bool (okParts ps qs)):=by
  refine mF dg87 Tryz.ntmps87 ?_
  simp only [ic87,go_sem]
  with_reducible repeat' (first|refine br ?_ ?_<;>intro h e<;>(try simp only [e,go_sem])<;>clear e|rw [i64w (by omega)]|refine sd ?_<;>try simp only [go_sem]|fail)
  · refine loopN (fun i:Nat=>⟨getL [(1,.sl 4 (qs.map Pc.row)),(2,.fn 88 []),(15,.sl 2 (ps.map Part.row)),(16,.int .i64 ps.length),(17,.int .i64 (i:Int))],getH []⟩) (fun i=>ps.length - i) (fun i=>i≤ps.length∧okParts ps qs=okParts (ps.drop i) (qs.drop i)) 0 (leQ []) ⟨Nat.zero_le _,by simp⟩ ?_
    intro i ⟨hi,ha⟩
    simp only [go_sem]
    have hlen:ps.length=qs.length:=by omega
    by_cases hil:(i:Int)<ps.length
    · have hst:=okParts_drop (show i<ps.length by omega) hlen
      have htx:(ps.getD i default).text.length≤2000000:=by
        have:ps.getD i default=ps[i]'(by omega):=by simp [List.getD,show i<ps.length by omega]
        rw [this];exact ht _ (List.getElem_mem _)
      simp only [eq_true hil,go_sem]
      refine effG (by omega) ?_
      simp only [go_sem]
      refine effG (by omega) ?_
      simp only [go_sem]
      refine callR (c88 _ _ _ _ _ _ htx) rfl rfl ?_
      simp only [go_sem]
      with_reducible repeat' (first|rw [i64w (by omega)];try simp only [go_sem]|refine br ?_ ?_<;>intro h e<;>(try simp only [e,go_sem])<;>clear e|refine sd ?_<;>try simp only [go_sem]|fail)
      · refine ⟨i+1,by omega,⟨by omega, ?_⟩,(leQ [])⟩
        rw [ha,hst,h,Bool.true_and]
      · rw [ha,hst,h,Bool.false_and]
    · simp only [eq_false hil,go_sem]
      have:i=ps.length:=by omega
      subst this
      rw [ha,List.drop_length,hlen,List.drop_length];rfl
  · rw [okParts_ne (by omega)]
def ic41:IC:=sR [oP 1 (.box 44 (.t 0)),oP 2 (.mv (.c (.bool false)))] (.seq (sR [fD 3 0 1,lD 4 1 3,oP 5 (.call 44 [.t 4]),oP 6 (.un .not (.t 5))] (.cond (.t 6) (sR [oP 2 (.mv (.c (.bool false)))] .ret) .skip)) (.seq (.drw [0,1,0,4,12,31,63] [(0,fD 7 1 1),(1,lD 8 1 7),(2,fD 9 0 1),(3,lD 10 1 9),(4,oP 11 (.call 46 [.t 10])),(5,oP 12 (.call 87 [.t 8,.t 11,.c (.fn 88 [])])),(6,mV 2 12)]) .ret))
theorem dg41:Dg Tryz.prog 41 Tryz.f41 ic41 [(.t 2)]:=⟨Tryz.func41,by kernel_rfl,by kernel_rfl⟩
theorem c41 (s:Strm) (h:SB s):FnR Tryz.prog G 41 [.agg [.str s.inn,.sl 2 (s.parts.map Part.row)]] (.bool (strmOk s)):=by
  refine mF dg41 Tryz.ntmps41 ?_
  obtain ⟨h1,h2,h3⟩:=h
  simp only [ic41,go_sem]
  have hp:=pieces_len s.inn
  with_reducible repeat' (first|refine br ?_ ?_<;>intro h e<;>(try simp only [e,go_sem])<;>clear e|rw [i64w (by omega)]|refine sd ?_<;>try simp only [go_sem]|(first|refine cr (c44 ..) ?_|refine cr (c46 ..) ?_)<;>try simp only [go_sem]|fail)
  · refine callR (c87 s.parts (pieces s.inn) h2 (by omega) h3) rfl rfl ?_
    simp only [go_sem]
    with_reducible repeat' (first|refine br ?_ ?_<;>intro h e<;>(try simp only [e,go_sem])<;>clear e|rw [i64w (by omega)]|refine sd ?_<;>try simp only [go_sem]|fail)
    simp_all [strmOk]
  · simp_all [strmOk]
def ic191:IC:=sR [oP 1 (.box 44 (.t 0)),oP 2 (.mv (.c s0))] (sR [oP 3 (.mv (.c s0))] (.seq (sR [oP 4 (.mv (.c i0))] (.block 0 (.loop (.seq (sR [mV 5 4,fD 6 1 1,lD 7 1 6,oP 8 (.len (.t 7)),bN 9 .lss 5 8] (.cond (.t 9) .skip (.exit 0))) (.seq (.block 1 (.reg [mV 12 3,fD 13 1 1,lD 14 1 13,mV 15 4,oP 16 (.iad 2 (.t 14) (.t 15)),fD 17 1 16,lD 18 1 17,bN 19 .add 12 18,mV 3 19])) (.reg [mV 10 4,oP 11 (.bin .add (.t 10) (.c (.int .i64 1))),mV 4 11])))))) (sR [mV 20 3,mV 2 20] .ret)))
theorem dg191:Dg Tryz.prog 191 Tryz.f191 ic191 [(.t 2)]:=⟨Tryz.func191,by kernel_rfl,by kernel_rfl⟩
theorem c191 (s:Strm) (h:StrB s):FnR Tryz.prog G 191 [.agg [.str s.inn,.sl 2 (s.parts.map Part.row)]] (.str (sOut s)):=by
  refine mF dg191 Tryz.ntmps191 ?_
  obtain ⟨h1,h2,h3⟩:=h
  have hol:=outL_le (l:=s.parts) fun p hp=>(h3 p hp).2.2.1
  simp only [ic191,go_sem]
  refine loopN (fun i:Nat=>⟨getL [(1,.pv 1001 0),(3,.str (outL (s.parts.take i))),(4,.int .i64 (i:Int))],getH [(1001,.var 44 [.str s.inn,.sl 2 (s.parts.map Part.row)])]⟩) (fun i=>s.parts.length - i) (fun i=>i≤s.parts.length) 0 (leQ []) (Nat.zero_le _) ?_
  intro i hi
  simp only [go_sem]
  by_cases h:(i:Int)<s.parts.length
  · have hil:i<s.parts.length:=by omega
    have hst:=outL_step hil
    have ho:=hol i
    have h3':=(h3 _ (List.getElem_mem hil)).2.2.1
    have hg:s.parts.getD i default=s.parts[i]:=by simp [List.getD,hil]
    simp only [eq_true h,go_sem]
    refine effG (by omega) ?_
    simp only [hg,go_sem]
    with_reducible repeat' (first|rw [i64w (by omega)];try simp only [go_sem]|refine br ?_ ?_<;>intro h e<;>(try simp only [e,go_sem])<;>clear e|refine sd ?_<;>try simp only [go_sem]|fail)
    exact ⟨i+1,by omega,by omega,leN [] (by simp only [go_sem,hst];omega) (by simp only [go_sem]) (by simp [getN]) (by simp only [go_sem])⟩
  · simp only [eq_false h,go_sem]
    have:i=s.parts.length:=by omega
    subst this
    rw [List.take_length];rfl
def ic202:IC:=sR [oP 1 (.box 44 (.t 0)),oP 2 (.mv (.c i0))] (sR [oP 3 (.mv (.c i0))] (.seq (sR [oP 4 (.mv (.c i0))] (.block 0 (.loop (.seq (sR [mV 5 4,fD 6 1 1,lD 7 1 6,oP 8 (.len (.t 7)),bN 9 .lss 5 8] (.cond (.t 9) .skip (.exit 0))) (.seq (.block 1 (.reg [mV 12 3,fD 13 1 1,lD 14 1 13,mV 15 4,oP 16 (.iad 2 (.t 14) (.t 15)),fD 17 0 16,lD 18 1 17,bN 19 .add 12 18,mV 3 19])) (.reg [mV 10 4,oP 11 (.bin .add (.t 10) (.c (.int .i64 1))),mV 4 11])))))) (sR [mV 20 3,mV 2 20] .ret)))
theorem dg202:Dg Tryz.prog 202 Tryz.f202 ic202 [(.t 2)]:=⟨Tryz.func202,by kernel_rfl,by kernel_rfl⟩
theorem c202 (s:Strm) (h:StrB s):FnR Tryz.prog G 202 [.agg [.str s.inn,.sl 2 (s.parts.map Part.row)]] (.int .i64 (doneP s.parts)):=by
  refine mF dg202 Tryz.ntmps202 ?_
  obtain ⟨h1,h2,h3⟩:=h
  have hol:=doneL_le (l:=s.parts) fun p hp=>(h3 p hp).1.2
  simp only [ic202,go_sem]
  refine loopN (fun i:Nat=>⟨getL [(1,.pv 1001 0),(3,.int .i64 (doneP (s.parts.take i))),(4,.int .i64 (i:Int))],getH [(1001,.var 44 [.str s.inn,.sl 2 (s.parts.map Part.row)])]⟩) (fun i=>s.parts.length - i) (fun i=>i≤s.parts.length) 0 (leQ []) (Nat.zero_le _) ?_
  intro i hi
  simp only [go_sem]
  by_cases h:(i:Int)<s.parts.length
  · have hil:i<s.parts.length:=by omega
    have hst:=doneL_step hil
    have ho:=hol i
    have h3':=(h3 _ (List.getElem_mem hil)).1
    have hg:s.parts.getD i default=s.parts[i]:=by simp [List.getD,hil]
    simp only [eq_true h,go_sem]
    refine effG (by omega) ?_
    simp only [hg,go_sem]
    with_reducible repeat' (first|rw [i64w (by omega)];try simp only [go_sem]|refine br ?_ ?_<;>intro h e<;>(try simp only [e,go_sem])<;>clear e|refine sd ?_<;>try simp only [go_sem]|fail)
    exact ⟨i+1,by omega,by omega,leN [] (by simp only [go_sem,hst];omega) (by simp only [go_sem]) (by simp [getN]) (by simp only [go_sem])⟩
  · simp only [eq_false h,go_sem]
    have:i=s.parts.length:=by omega
    subst this
    rw [List.take_length]
def ic205:IC:=sR [oP 2 (.box 44 (.t 0)),oP 4 (.mv (.c i0))] (sR [oP 5 (.mv (.c i0))] (.seq (sR [oP 6 (.mv (.c i0))] (.block 0 (.loop (.seq (sR [mV 7 6,fD 8 1 2,lD 9 1 8,oP 10 (.len (.t 9)),bN 11 .lss 7 10,mV 12 11,⟨some 13,some (12,true),.fad 1 (.t 2)⟩,⟨some 14,some (12,true),.ld 1 false (.t 13)⟩,⟨some 15,some (12,true),.mv (.t 6)⟩,⟨some 16,some (12,true),.iad 2 (.t 14) (.t 15)⟩,⟨some 17,some (12,true),.fad 0 (.t 16)⟩,⟨some 18,some (12,true),.ld 1 false (.t 17)⟩,⟨some 19,some (12,true),.mv (.t 1)⟩,⟨some 20,some (12,true),.bin .leq (.t 18) (.t 19)⟩,oP 21 (.pick (.t 12) (.t 20) (.c (.bool false)))] (.cond (.t 21) .skip (.exit 0))) (.seq (.block 1 (sR [mV 24 1,fD 25 1 2,lD 26 1 25,mV 27 6,oP 28 (.iad 2 (.t 26) (.t 27)),fD 29 0 28,lD 30 1 29,bN 31 .sub 24 30,mV 1 31] (.reg [mV 32 5,fD 33 1 2,lD 34 1 33,mV 35 6,oP 36 (.iad 2 (.t 34) (.t 35)),fD 37 1 36,lD 38 1 37,oP 39 (.lens (.t 38)),bN 40 .add 32 39,mV 5 40]))) (.reg [mV 22 6,oP 23 (.bin .add (.t 22) (.c (.int .i64 1))),mV 6 23])))))) (sR [mV 41 5,mV 4 41] .ret)))
theorem dg205:Dg Tryz.prog 205 Tryz.f205 ic205 [(.t 4)]:=⟨Tryz.func205,by kernel_rfl,by kernel_rfl⟩
theorem c205 (s:Strm) (n:Int) (h:StrB s) (hn : -10000≤n∧n≤10000):FnR Tryz.prog G 205 [.agg [.str s.inn,.sl 2 (s.parts.map Part.row)],.int .i64 n] (.int .i64 (forP s.parts n)):=by
  refine mF dg205 Tryz.ntmps205 ?_
  obtain ⟨h1,h2,h3⟩:=h
  simp only [ic205,go_sem]
  refine loopN (fun a:Nat × Int × Int=>⟨getL [(1,.int .i64 a.2.1),(2,.pv 1002 0),(5,.int .i64 a.2.2),(6,.int .i64 (a.1:Int))],getH [(1002,.var 44 [.str s.inn,.sl 2 (s.parts.map Part.row)])]⟩) (fun a=>s.parts.length - a.1)
    (fun a=>a.1≤s.parts.length∧forP s.parts n=a.2.2+forP (s.parts.drop a.1) a.2.1∧(-20000≤a.2.1∧a.2.1≤10000) ∧ -10000 - 6 * a.1≤a.2.1∧0≤a.2.2∧a.2.2≤6 * a.1) (0,n,0) (leQ []) ⟨Nat.zero_le _,by simp,⟨by simp;omega,by simp;omega⟩,by simp;omega,by simp,by simp⟩ ?_
  intro ⟨i,x,y⟩ ⟨hi,ha,hx,hx2,hy,hy2⟩
  simp only at hi ha hx hx2 hy hy2
  simp only [go_sem]
  by_cases h:(i:Int)<s.parts.length
  · have hil:i<s.parts.length:=by omega
    have h3':=h3 _ (List.getElem_mem hil)
    have hg:s.parts.getD i default=s.parts[i]:=by simp [List.getD,hil]
    rw [List.drop_eq_getElem_cons hil] at ha
    simp only [forP] at ha
    simp only [eq_true h,go_sem]
    refine effG (by omega) ?_
    simp only [hg,go_sem]
    with_reducible repeat' (first|rw [i64w (by omega)];try simp only [go_sem,hg]|refine br ?_ ?_<;>intro h e<;>(try simp only [e,go_sem,hg])<;>clear e|refine sd ?_<;>try simp only [go_sem,hg]|fail)
    · rw [if_pos h] at ha
      exact ⟨(i+1,x - s.parts[i].size,y+s.parts[i].text.length),by simp;omega,⟨by simp;omega,by simp only;rw [ha];omega,by simp only;omega,by simp only;omega,by simp only;omega,by simp only;omega⟩,(leQ [])⟩
    · rw [if_neg h] at ha
      rw [ha];omega
  · simp only [eq_false h,go_sem]
    have:i=s.parts.length:=by omega
    subst this
    rw [ha,List.drop_length];simp [forP]
def ic192:IC:=sR [oP 2 (.box 44 (.t 0)),oP 4 (.mv (.c i0))] (sR [oP 5 (.mv (.c i0))] (.seq (sR [oP 6 (.mv (.c i0))] (.block 0 (.loop (.seq (sR [mV 7 6,fD 8 1 2,lD 9 1 8,oP 10 (.len (.t 9)),bN 11 .lss 7 10,mV 12 11,⟨some 13,some (12,true),.fad 1 (.t 2)⟩,⟨some 14,some (12,true),.ld 1 false (.t 13)⟩,⟨some 15,some (12,true),.mv (.t 6)⟩,⟨some 16,some (12,true),.iad 2 (.t 14) (.t 15)⟩,⟨some 17,some (12,true),.fad 1 (.t 16)⟩,⟨some 18,some (12,true),.ld 1 false (.t 17)⟩,⟨some 19,some (12,true),.lens (.t 18)⟩,⟨some 20,some (12,true),.mv (.t 1)⟩,⟨some 21,some (12,true),.bin .leq (.t 19) (.t 20)⟩,oP 22 (.pick (.t 12) (.t 21) (.c (.bool false)))] (.cond (.t 22) .skip (.exit 0))) (.seq (.block 1 (sR [mV 25 1,fD 26 1 2,lD 27 1 26,mV 28 6,oP 29 (.iad 2 (.t 27) (.t 28)),fD 30 1 29,lD 31 1 30,oP 32 (.lens (.t 31)),bN 33 .sub 25 32,mV 1 33] (.reg [mV 34 5,fD 35 1 2,lD 36 1 35,mV 37 6,oP 38 (.iad 2 (.t 36) (.t 37)),fD 39 0 38,lD 40 1 39,bN 41 .add 34 40,mV 5 41]))) (.reg [mV 23 6,oP 24 (.bin .add (.t 23) (.c (.int .i64 1))),mV 6 24])))))) (sR [mV 42 5,mV 4 42] .ret)))
theorem dg192:Dg Tryz.prog 192 Tryz.f192 ic192 [(.t 4)]:=⟨Tryz.func192,by kernel_rfl,by kernel_rfl⟩
theorem c192 (s:Strm) (n:Int) (h:StrB s) (hn : -10000≤n∧n≤10000):FnR Tryz.prog G 192 [.agg [.str s.inn,.sl 2 (s.parts.map Part.row)],.int .i64 n] (.int .i64 (backP s.parts n)):=by
  refine mF dg192 Tryz.ntmps192 ?_
  obtain ⟨h1,h2,h3⟩:=h
  simp only [ic192,go_sem]
  refine loopN (fun a:Nat × Int × Int=>⟨getL [(1,.int .i64 a.2.1),(2,.pv 1002 0),(5,.int .i64 a.2.2),(6,.int .i64 (a.1:Int))],getH [(1002,.var 44 [.str s.inn,.sl 2 (s.parts.map Part.row)])]⟩) (fun a=>s.parts.length - a.1)
    (fun a=>a.1≤s.parts.length∧backP s.parts n=a.2.2+backP (s.parts.drop a.1) a.2.1∧(-20000≤a.2.1∧a.2.1≤10000) ∧ -10000 - 6 * a.1≤a.2.1∧0≤a.2.2∧a.2.2≤6 * a.1) (0,n,0) (leQ []) ⟨Nat.zero_le _,by simp,⟨by simp;omega,by simp;omega⟩,by simp;omega,by simp,by simp⟩ ?_
  intro ⟨i,x,y⟩ ⟨hi,ha,hx,hx2,hy,hy2⟩
  simp only at hi ha hx hx2 hy hy2
  simp only [go_sem]
  by_cases h:(i:Int)<s.parts.length
  · have hil:i<s.parts.length:=by omega
    have h3':=h3 _ (List.getElem_mem hil)
    have hg:s.parts.getD i default=s.parts[i]:=by simp [List.getD,hil]
    rw [List.drop_eq_getElem_cons hil] at ha
    simp only [backP] at ha
    simp only [eq_true h,go_sem]
    refine effG (by omega) ?_
    simp only [hg,go_sem]
    with_reducible repeat' (first|rw [i64w (by omega)];try simp only [go_sem,hg]|refine br ?_ ?_<;>intro h e<;>(try simp only [e,go_sem,hg])<;>clear e|refine sd ?_<;>try simp only [go_sem,hg]|fail)
    · rw [if_pos h] at ha
      exact ⟨(i+1,x - s.parts[i].text.length,y+s.parts[i].size),by simp;omega,⟨by simp;omega,by simp only;rw [ha];omega,by simp only;omega,by simp only;omega,by simp only;omega,by simp only;omega⟩,(leQ [])⟩
    · rw [if_neg h] at ha
      rw [ha];omega
  · simp only [eq_false h,go_sem]
    have:i=s.parts.length:=by omega
    subst this
    rw [ha,List.drop_length];simp [backP]
def ic189:IC:=sR [oP 2 (.box 44 (.t 0)),oP 4 (.mv (.c i0))] (sR [oP 5 (.mv (.c i0))] (.seq (sR [fD 8 1 2,lD 9 1 8,oP 10 (.len (.t 9)),oP 11 (.mv (.c i0))] (.block 0 (.loop (sR [bN 12 .lss 11 10] (.seq (.cond (.t 12) .skip (.exit 0)) (.seq (.block 1 (sR [oP 13 (.iad 2 (.t 9) (.t 11)),lA 14 2 13,oP 7 (.alloc 125 [i0,s0]),nP (.sto 2 (.t 7) (.t 14))] (.seq (sR [mV 15 1,fD 16 0 7,lD 17 1 16,bN 18 .sub 15 17,mV 1 18] (sR [mV 19 1,oP 20 (.bin .lss (.t 19) (.c i0))] (.cond (.t 20) (.exit 0) .skip))) (.reg [mV 21 5,fD 22 1 7,lD 23 1 22,oP 24 (.lens (.t 23)),bN 25 .add 21 24,mV 5 25])))) (.reg [oP 26 (.bin .add (.t 11) (.c (.int .i64 1))),mV 11 26]))))))) (sR [mV 27 5,mV 4 27] .ret)))
theorem dg189:Dg Tryz.prog 189 Tryz.f189 ic189 [(.t 4)]:=⟨Tryz.func189,by kernel_rfl,by kernel_rfl⟩
theorem c189 (s:Strm) (n:Int) (h:StrB s) (hn : -10000≤n∧n≤10000):FnR Tryz.prog G 189 [.agg [.str s.inn,.sl 2 (s.parts.map Part.row)],.int .i64 n] (.int .i64 (forP s.parts n)):=by
  refine mF dg189 Tryz.ntmps189 ?_
  obtain ⟨h1,h2,h3⟩:=h
  simp only [ic189,go_sem]
  refine loopN (fun a:Nat × Int × Int=>⟨getL [(1,.int .i64 a.2.1),(5,.int .i64 a.2.2),(9,.sl 2 (s.parts.map Part.row)),(10,.int .i64 s.parts.length),(11,.int .i64 (a.1:Int))],getH []⟩) (fun a=>s.parts.length - a.1)
    (fun a=>a.1≤s.parts.length∧forP s.parts n=a.2.2+forP (s.parts.drop a.1) a.2.1∧(-20000≤a.2.1∧a.2.1≤10000) ∧ -10000 - 6 * a.1≤a.2.1∧0≤a.2.2∧a.2.2≤6 * a.1) (0,n,0) (leQ []) ⟨Nat.zero_le _,by simp,⟨by simp;omega,by simp;omega⟩,by simp;omega,by simp,by simp⟩ ?_
  intro ⟨i,x,y⟩ ⟨hi,ha,hx,hx2,hy,hy2⟩
  simp only at hi ha hx hx2 hy hy2
  simp only [go_sem]
  by_cases h:(i:Int)<s.parts.length
  · have hil:i<s.parts.length:=by omega
    have h3':=h3 _ (List.getElem_mem hil)
    have hg:s.parts.getD i default=s.parts[i]:=by simp [List.getD,hil]
    rw [List.drop_eq_getElem_cons hil] at ha
    simp only [forP] at ha
    simp only [eq_true h,go_sem]
    refine effG (by omega) ?_
    simp only [hg,go_sem]
    with_reducible repeat' (first|rw [i64w (by omega)];try simp only [go_sem,hg]|refine br ?_ ?_<;>intro h e<;>(try simp only [e,go_sem,hg])<;>clear e|refine sd ?_<;>try simp only [go_sem,hg]|fail)
    · rw [if_neg (by omega)] at ha
      rw [ha];omega
    · rw [if_pos (by omega)] at ha
      exact ⟨(i+1,x - s.parts[i].size,y+s.parts[i].text.length),by simp;omega,⟨by simp;omega,by simp only;rw [ha];omega,by simp only;omega,by simp only;omega,by simp only;omega,by simp only;omega⟩,(leQ [])⟩
  · simp only [eq_false h,go_sem]
    have:i=s.parts.length:=by omega
    subst this
    rw [ha,List.drop_length];simp [forP]
def ic187:IC:=sR [oP 2 (.box 44 (.t 0)),oP 4 (.mv (.c i0))] (sR [oP 5 (.mv (.c i0))] (.seq (sR [fD 8 1 2,lD 9 1 8,oP 10 (.len (.t 9)),oP 11 (.mv (.c i0))] (.block 0 (.loop (sR [bN 12 .lss 11 10] (.seq (.cond (.t 12) .skip (.exit 0)) (.seq (.block 1 (sR [oP 13 (.iad 2 (.t 9) (.t 11)),lA 14 2 13,oP 7 (.alloc 125 [i0,s0]),nP (.sto 2 (.t 7) (.t 14))] (.seq (sR [mV 15 1,fD 16 1 7,lD 17 1 16,oP 18 (.lens (.t 17)),bN 19 .sub 15 18,mV 1 19] (sR [mV 20 1,oP 21 (.bin .lss (.t 20) (.c i0))] (.cond (.t 21) (.exit 0) .skip))) (.reg [mV 22 5,fD 23 0 7,lD 24 1 23,bN 25 .add 22 24,mV 5 25])))) (.reg [oP 26 (.bin .add (.t 11) (.c (.int .i64 1))),mV 11 26]))))))) (sR [mV 27 5,mV 4 27] .ret)))
theorem dg187:Dg Tryz.prog 187 Tryz.f187 ic187 [(.t 4)]:=⟨Tryz.func187,by kernel_rfl,by kernel_rfl⟩
theorem c187 (s:Strm) (n:Int) (h:StrB s) (hn : -10000≤n∧n≤10000):FnR Tryz.prog G 187 [.agg [.str s.inn,.sl 2 (s.parts.map Part.row)],.int .i64 n] (.int .i64 (backP s.parts n)):=by
  refine mF dg187 Tryz.ntmps187 ?_
  obtain ⟨h1,h2,h3⟩:=h
  simp only [ic187,go_sem]
  refine loopN (fun a:Nat × Int × Int=>⟨getL [(1,.int .i64 a.2.1),(5,.int .i64 a.2.2),(9,.sl 2 (s.parts.map Part.row)),(10,.int .i64 s.parts.length),(11,.int .i64 (a.1:Int))],getH []⟩) (fun a=>s.parts.length - a.1)
    (fun a=>a.1≤s.parts.length∧backP s.parts n=a.2.2+backP (s.parts.drop a.1) a.2.1∧(-20000≤a.2.1∧a.2.1≤10000) ∧ -10000 - 6 * a.1≤a.2.1∧0≤a.2.2∧a.2.2≤6 * a.1) (0,n,0) (leQ []) ⟨Nat.zero_le _,by simp,⟨by simp;omega,by simp;omega⟩,by simp;omega,by simp,by simp⟩ ?_
  intro ⟨i,x,y⟩ ⟨hi,ha,hx,hx2,hy,hy2⟩
  simp only at hi ha hx hx2 hy hy2
  simp only [go_sem]
  by_cases h:(i:Int)<s.parts.length
  · have hil:i<s.parts.length:=by omega
    have h3':=h3 _ (List.getElem_mem hil)
    have hg:s.parts.getD i default=s.parts[i]:=by simp [List.getD,hil]
    rw [List.drop_eq_getElem_cons hil] at ha
    simp only [backP] at ha
    simp only [eq_true h,go_sem]
    refine effG (by omega) ?_
    simp only [hg,go_sem]
    with_reducible repeat' (first|rw [i64w (by omega)];try simp only [go_sem,hg]|refine br ?_ ?_<;>intro h e<;>(try simp only [e,go_sem,hg])<;>clear e|refine sd ?_<;>try simp only [go_sem,hg]|fail)
    · rw [if_neg (by omega)] at ha
      rw [ha];omega
    · rw [if_pos (by omega)] at ha
      exact ⟨(i+1,x - s.parts[i].text.length,y+s.parts[i].size),by simp;omega,⟨by simp;omega,by simp only;rw [ha];omega,by simp only;omega,by simp only;omega,by simp only;omega,by simp only;omega⟩,(leQ [])⟩
  · simp only [eq_false h,go_sem]
    have:i=s.parts.length:=by omega
    subst this
    rw [ha,List.drop_length];simp [backP]
def ic86:IC:=sR [oP 1 (.box 44 (.t 0)),oP 2 (.alloc 44 [s0,.nils])] (.seq (.drw [0,1,0,4,12,28,63,127] [(0,fD 3 0 1),(1,lD 4 1 3),(2,fD 5 1 1),(3,lD 6 1 5),(4,oP 7 (.call 135 [.t 6])),(5,oP 8 (.call 134 [.t 7])),(6,oP 9 (.build [s0,.nils] [(0,(1,.t 4)),(1,(1,.t 8))])),(7,nP (.sto 2 (.t 2) (.t 9)))]) .ret)
theorem dg86:Dg Tryz.prog 86 Tryz.f86 ic86 [(.cell 2 2 true)]:=⟨Tryz.func86,by kernel_rfl,by kernel_rfl⟩
theorem c86 (t:B) (rows:List (List V)) (hr:rows.length≤2000000):FnR Tryz.prog G 86 [.agg [.str t,.sl 2 rows]] (.agg [.str t,.sl 2 rows]):=by
  refine mF dg86 Tryz.ntmps86 ?_
  simp only [ic86,go_sem]
  repeat' (first
    | (with_reducible refine chkI ?_ ?_;· kernel_rfl;try simp only [go_sem])
    | (refine callO (c135 rows hr) [] 7 1 (by simp only [go_sem];first|done|simp) (by simp) (by rintro _ _ ⟨rfl,rfl⟩;simp) (by intro i hi;obtain rfl:i=0:=(by omega);simp only [go_sem]) ?_;rintro _ _ ⟨rfl,rfl⟩;simp only [go_sem])
    | (refine callU (o134 rows rows.length rfl) [100700] [] 8 1 (by simp only [go_sem];first|done|simp) (by simp only [go_sem];first|done|simp) (by simp) (by simp) (by rintro _ _ ⟨rfl,rfl⟩;simp) (by intro i hi;obtain rfl:i=0:=(by omega);simp only [go_sem]) ?_;rintro _ _ ⟨rfl,rfl⟩;simp only [go_sem])
    | kernel_rfl)
def ic150:IC:=sR [oP 1 (.box 44 (.t 0)),oP 2 (.alloc 44 [s0,.nils])] (.seq (.drw [0,1,0,0,8,28,63,127] [(0,fD 3 0 1),(1,lD 4 1 3),(2,oP 5 (.bsl 125 2 [])),(3,fD 6 1 1),(4,lD 7 1 6),(5,oP 8 (.app 125 2 (.t 5) (.t 7))),(6,oP 9 (.build [s0,.nils] [(0,(1,.t 4)),(1,(1,.t 8))])),(7,nP (.sto 2 (.t 2) (.t 9)))]) .ret)
theorem dg150:Dg Tryz.prog 150 Tryz.f150 ic150 [(.cell 2 2 true)]:=⟨Tryz.func150,by kernel_rfl,by kernel_rfl⟩
theorem c150 (t:B) (rows:List (List V)) (hr:rows.length≤2000000):FnR Tryz.prog G 150 [.agg [.str t,.sl 2 rows]] (.agg [.str t,.sl 2 rows]):=by
  refine mF dg150 Tryz.ntmps150 ?_
  simp only [ic150,go_sem]
  with_reducible repeat' (first|refine br ?_ ?_<;>intro h e<;>(try simp only [e,go_sem])<;>clear e|rw [i64w (by omega)]|refine sd ?_<;>try simp only [go_sem]|fail)
def ic109:IC:=sR [oP 1 (.box 44 (.t 0)),oP 2 (.mv (.c (.bool false)))] (sR [fD 5 0 1,lD 6 1 5,oP 7 (.call 153 [.t 6]),mV 3 7] (.seq (sR [fD 8 0 1,lD 9 1 8,oP 10 (.call 105 [.t 9]),oP 11 (.un .not (.t 10)),mV 12 11,⟨some 13,some (12,false),.mv (.t 3)⟩,⟨some 14,some (12,false),.len (.t 13)⟩,⟨some 15,some (12,false),.fad 1 (.t 1)⟩,⟨some 16,some (12,false),.ld 1 false (.t 15)⟩,⟨some 17,some (12,false),.len (.t 16)⟩,⟨some 18,some (12,false),.bin .neq (.t 14) (.t 17)⟩,oP 19 (.pick (.t 12) (.c (.bool true)) (.t 18))] (.cond (.t 19) (sR [oP 2 (.mv (.c (.bool false)))] .ret) .skip)) (.seq (sR [oP 4 (.mv (.c i0))] (.block 0 (.loop (.seq (sR [mV 20 4,mV 21 3,oP 22 (.len (.t 21)),bN 23 .lss 20 22] (.cond (.t 23) .skip (.exit 0))) (.seq (.block 1 (.seq (.drw [0,1,0,7,15,31,0,0,192,448,960,2047,4095,8191,16383,8191,65535,131071,262143,524287,1048575,2097151,4194303,8388607,16777215,8388607,67108863,134217727,268435455,536870911,1073741823,2147483647,4294967295,8589934591,4294967295,34359738367,68719476735,137438953471,274877906943,549755813887,1099511627775] [(0,fD 26 1 1),(1,lD 27 1 26),(2,mV 28 4),(3,oP 29 (.iad 2 (.t 27) (.t 28))),(4,fD 30 0 29),(5,lD 31 1 30),(6,mV 32 3),(7,mV 33 4),(8,oP 34 (.iad 4 (.t 32) (.t 33))),(9,fD 35 0 34),(10,lD 36 1 35),(11,bN 37 .neq 31 36),(12,mV 38 37),(13,⟨some 39,some (38,false),.fad 1 (.t 1)⟩),(14,⟨some 40,some (38,false),.ld 1 false (.t 39)⟩),(15,⟨some 41,some (38,false),.mv (.t 4)⟩),(16,⟨some 42,some (38,false),.iad 2 (.t 40) (.t 41)⟩),(17,⟨some 43,some (38,false),.fad 1 (.t 42)⟩),(18,⟨some 44,some (38,false),.ld 1 false (.t 43)⟩),(19,⟨some 45,some (38,false),.lens (.t 44)⟩),(20,⟨some 46,some (38,false),.bin .gtr (.t 45) (.c (.int .i64 6))⟩),(21,oP 47 (.pick (.t 38) (.c (.bool true)) (.t 46))),(22,mV 48 47),(23,⟨some 49,some (48,false),.fad 1 (.t 1)⟩),(24,⟨some 50,some (48,false),.ld 1 false (.t 49)⟩),(25,⟨some 51,some (48,false),.mv (.t 4)⟩),(26,⟨some 52,some (48,false),.iad 2 (.t 50) (.t 51)⟩),(27,⟨some 53,some (48,false),.fad 1 (.t 52)⟩),(28,⟨some 54,some (48,false),.ld 1 false (.t 53)⟩),(29,⟨some 55,some (48,false),.bin .eql (.t 54) (.c s0)⟩),(30,oP 56 (.pick (.t 48) (.c (.bool true)) (.t 55))),(31,mV 57 56),(32,⟨some 58,some (57,false),.fad 1 (.t 1)⟩),(33,⟨some 59,some (57,false),.ld 1 false (.t 58)⟩),(34,⟨some 60,some (57,false),.mv (.t 4)⟩),(35,⟨some 61,some (57,false),.iad 2 (.t 59) (.t 60)⟩),(36,⟨some 62,some (57,false),.fad 1 (.t 61)⟩),(37,⟨some 63,some (57,false),.ld 1 false (.t 62)⟩),(38,⟨some 64,some (57,false),.call 105 [.t 63]⟩),(39,⟨some 65,some (57,false),.un .not (.t 64)⟩),(40,oP 66 (.pick (.t 57) (.c (.bool true)) (.t 65)))]) (.cond (.t 66) (sR [oP 2 (.mv (.c (.bool false)))] .ret) .skip))) (.reg [mV 24 4,oP 25 (.bin .add (.t 24) (.c (.int .i64 1))),mV 4 25])))))) (sR [oP 2 (.mv (.c (.bool true)))] .ret))))
theorem dg109:Dg Tryz.prog 109 Tryz.f109 ic109 [(.t 2)]:=⟨Tryz.func109,by kernel_rfl,by kernel_rfl⟩
theorem c109 (s:Strm) (h:SB s):FnR Tryz.prog G 109 [.agg [.str s.inn,.sl 2 (s.parts.map Part.row)]] (.bool (strmOk s)):=by
  refine mF dg109 Tryz.ntmps109 ?_
  obtain ⟨h1,h2,h3⟩:=h
  simp only [ic109,go_sem]
  have hp:=textPieces_len s.inn
  have hpe:txOk s.inn=true→textPieces s.inn=pieces s.inn:=fun h=>by simp [textPieces,h]
  refine callR (c153 s.inn) rfl rfl ?_
  simp only [go_sem]
  refine callR (c105 s.inn) rfl rfl ?_
  simp only [go_sem]
  cases ht:txOk s.inn<;>simp only [go_sem]
  · simp [strmOk,ht]
  have hpe:=hpe ht
  rw [hpe] at hp ⊢
  generalize hq:pieces s.inn=q at *
  have hso:strmOk s=okParts s.parts q:=by simp [strmOk,ht,hq]
  with_reducible repeat' (first|refine br ?_ ?_<;>intro h e<;>(try simp only [e,go_sem])<;>clear e|rw [i64w (by omega)]|refine sd ?_<;>try simp only [go_sem]|fail)
  · have hlen:s.parts.length=q.length:=by omega
    refine loopN (fun i:Nat=>⟨getL [(1,.pv 1001 0),(3,.sl 4 (q.map Pc.row)),(4,.int .i64 (i:Int))],getH [(1001,.var 44 [.str s.inn,.sl 2 (s.parts.map Part.row)])]⟩) (fun i=>q.length - i) (fun i=>i≤q.length∧okParts s.parts q=okParts (s.parts.drop i) (q.drop i)) 0 (leQ []) ⟨Nat.zero_le _,by simp⟩ ?_
    intro i ⟨hi,ha⟩
    simp only [go_sem]
    by_cases hil:(i:Int)<q.length
    · have hst:=okParts_drop (show i<s.parts.length by omega) hlen
      have htx:(s.parts.getD i default).text.length≤2000000:=by
        have:s.parts.getD i default=s.parts[i]'(by omega):=by simp [List.getD,show i<s.parts.length by omega]
        rw [this];exact h3 _ (List.getElem_mem _)
      simp only [eq_true hil,go_sem]
      with_reducible repeat' (first|rw [i64w (by omega)];try simp only [go_sem]|refine br ?_ ?_<;>intro h e<;>(try simp only [e,go_sem])<;>clear e|refine sd ?_<;>try simp only [go_sem]|(first|refine cr (c105 ..) ?_)<;>try simp only [go_sem]|fail)
      · rw [hso,ha,hst]
        cases hok:okPart (s.parts.getD i default) (q.getD i default) with
        | false=>rfl
        | true=>have:=(okPart_iff.1 hok).1;rw [this] at h;simp at h
      · rw [hso,ha,hst]
        cases hok:okPart (s.parts.getD i default) (q.getD i default) with
        | false=>rfl
        | true=>have:=(okPart_iff.1 hok).2.1;omega
      · rw [hso,ha,hst]
        cases hok:okPart (s.parts.getD i default) (q.getD i default) with
        | false=>rfl
        | true=>have:=(okPart_iff.1 hok).2.1;rw [h] at this;simp at this
      · refine ⟨i+1,by omega,⟨by omega, ?_⟩,(leQ [])⟩
        rename_i g1 g2 g3
        have hok:okPart (s.parts.getD i default) (q.getD i default)=true:=okPart_iff.2 ⟨by simpa using g1,⟨List.length_pos_iff.2 g3,by omega⟩,h⟩
        rw [ha,hst,hok,Bool.true_and]
      · rw [hso,ha,hst]
        cases hok:okPart (s.parts.getD i default) (q.getD i default) with
        | false=>rfl
        | true=>have:=(okPart_iff.1 hok).2.2;rw [this] at h;cases h
    · simp only [eq_false hil,go_sem]
      have:i=q.length:=by omega
      subst this
      rw [hso,ha,List.drop_length,← hlen,List.drop_length];rfl
  · rw [hso,okParts_ne (by omega)]
def rdH (code:B) (p:Int):Hs:=.var 104 [.sl 1 (code.map byR),.int .i64 p]
def rdQ (code:B) (p c:Int) (Q:V→Prop) (r:V) (o:List Hs):Prop:=∃ p':Int,p≤p'∧p'≤p+c∧o=[rdH code p']∧Q r
theorem xor_nn {a b:Int} (ha:0≤a∧a<1099511627776) (hb:0≤b∧b<1099511627776):0≤bits .xor .i64 a b:=by
  obtain ⟨x,rfl⟩:=Int.eq_ofNat_of_zero_le ha.1
  obtain ⟨y,rfl⟩:=Int.eq_ofNat_of_zero_le hb.1
  have hx:x<2 ^ 40:=by omega
  have hy:y<2 ^ 40:=by omega
  have hz:=Nat.xor_lt_two_pow hx hy
  unfold bits
  simp only [BitVec.toNat_xor,BitVec.toNat_ofInt]
  have e1:((x:Int) % (2 ^ IntKind.i64.bits:Nat)).toNat=x:=by
    rw [show (2 ^ IntKind.i64.bits:Nat)=18446744073709551616 from rfl];omega
  have e2:((y:Int) % (2 ^ IntKind.i64.bits:Nat)).toNat=y:=by
    rw [show (2 ^ IntKind.i64.bits:Nat)=18446744073709551616 from rfl];omega
  rw [e1,e2,i64w (by omega)]
  omega
def ic32:IC:=sR [oP 4 (.mv (.c i0))] (sR [mV 7 0,mV 8 0,oP 9 (.nilc (.t 8)),fD 10 1 9,lD 11 1 10,oP 12 (.bin .add (.t 11) (.c (.int .i64 1))),oP 13 (.nilc (.t 7)),fD 14 1 13,nP (.sto 1 (.t 14) (.t 12))] (.seq (sR [mV 15 1,oP 16 (.bin .lss (.t 15) (.c (.int .i64 1))),mV 17 16,⟨some 18,some (17,false),.mv (.t 0)⟩,⟨some 19,some (17,false),.nilc (.t 18)⟩,⟨some 20,some (17,false),.fad 0 (.t 19)⟩,⟨some 21,some (17,false),.ld 1 false (.t 20)⟩,⟨some 22,some (17,false),.len (.t 21)⟩,⟨some 23,some (17,false),.bin .eql (.t 22) (.c i0)⟩,oP 24 (.pick (.t 17) (.c (.bool true)) (.t 23))] (.cond (.t 24) (sR [oP 4 (.mv (.c i0))] .ret) .skip)) (sR [mV 25 0,oP 26 (.nilc (.t 25)),fD 27 1 26,lD 28 1 27,oP 29 (.bin .sub (.t 28) (.c (.int .i64 1))),mV 5 29] (.seq (sR [mV 30 5,mV 31 0,oP 32 (.nilc (.t 31)),fD 33 0 32,lD 34 1 33,oP 35 (.len (.t 34)),bN 36 .lss 30 35] (.cond (.t 36) (sR [mV 37 0,oP 38 (.nilc (.t 37)),fD 39 0 38,lD 40 1 39,mV 41 5,oP 42 (.iad 1 (.t 40) (.t 41)),lD 43 1 42,oP 44 (.cvi .i64 (.t 43)),mV 45 1,bN 46 .rem 44 45,mV 4 46] .ret) .skip)) (.seq (.drw [0,1,3,7,0,0,32,96,224,480,1008,2047,4095,8191,16383,0,32768,98304,229376,0,524288,1572864,0,4194304,12582912,29360128,62914560,133693440,268402688,536838144,1073709056,2147450880,4294967295,0,8589934592,34359738367,0,0,137438953472,412316860416,962072674304,2061584302080,4329327034368,8727373545472,17592186044415,35184372088831] [(0,mV 47 0),(1,oP 48 (.nilc (.t 47))),(2,fD 49 0 48),(3,lD 50 1 49),(4,mV 51 5),(5,mV 52 0),(6,oP 53 (.nilc (.t 52))),(7,fD 54 0 53),(8,lD 55 1 54),(9,oP 56 (.len (.t 55))),(10,bN 57 .rem 51 56),(11,oP 58 (.iad 1 (.t 50) (.t 57))),(12,lD 59 1 58),(13,oP 60 (.cvi .i64 (.t 59))),(14,oP 61 (.bin .mul (.t 60) (.c (.int .i64 131)))),(15,mV 62 0),(16,oP 63 (.nilc (.t 62))),(17,fD 64 0 63),(18,lD 65 1 64),(19,mV 66 5),(20,oP 67 (.bin .mul (.t 66) (.c (.int .i64 7)))),(21,oP 68 (.bin .add (.t 67) (.c (.int .i64 3)))),(22,mV 69 0),(23,oP 70 (.nilc (.t 69))),(24,fD 71 0 70),(25,lD 72 1 71),(26,oP 73 (.len (.t 72))),(27,bN 74 .rem 68 73),(28,oP 75 (.iad 1 (.t 65) (.t 74))),(29,lD 76 1 75),(30,oP 77 (.cvi .i64 (.t 76))),(31,oP 78 (.bin .mul (.t 77) (.c (.int .i64 1117)))),(32,bN 79 .add 61 78),(33,mV 80 5),(34,oP 81 (.bin .mul (.t 80) (.c (.int .i64 29)))),(35,bN 82 .add 79 81),(36,mV 83 5),(37,mV 84 0),(38,oP 85 (.nilc (.t 84))),(39,fD 86 0 85),(40,lD 87 1 86),(41,oP 88 (.len (.t 87))),(42,bN 89 .quo 83 88),(43,oP 90 (.bin .mul (.t 89) (.c (.int .i64 53)))),(44,bN 91 .add 82 90),(45,mV 6 91)]) (sR [mV 92 6,mV 93 6,oP 94 (.bin .quo (.t 93) (.c (.int .i64 64))),bN 95 .xor 92 94,mV 6 95] (sR [mV 96 6,mV 97 1,bN 98 .rem 96 97,mV 4 98] .ret)))))))
theorem dg32:Dg Tryz.prog 32 Tryz.f32 ic32 [(.t 4)]:=⟨Tryz.func32,by kernel_rfl,by kernel_rfl⟩
theorem c32 (code:B) (p n:Int) (hc:code.length≤2000) (hp:0≤p∧p≤1000000000) (hn:n≤1000000):FnP Tryz.prog G 32 1 [rdH code p] [.pv 0 0,.int .i64 n]
    (fun r o=>∃ k:Int,0≤k∧(1≤n→k<n)∧r=.int .i64 k∧o=[rdH code (p+1)]):=by
  refine mP dg32 Tryz.ntmps32 ⟨_,_,0,by omega,by omega,rfl,rfl⟩ ?_
  simp only [ic32,go_sem,rdH]
  have t1:∀ a:Int,0≤a→0≤a.tmod code.length:=fun a h=>Int.tmod_nonneg _ h
  have t2:∀ a:Int,0≤a→0<(code.length:Int)→a.tmod code.length<code.length:=fun a _ h=>Int.tmod_lt_of_pos _ h
  have hpp:p+1 - 1=p:=by omega
  have t3:(code.length:Int)≠0→0≤p.tdiv code.length∧p.tdiv code.length≤p:=fun h=>⟨Int.tdiv_nonneg hp.1 (by omega),Int.tdiv_le_self _ hp.1⟩
  have b8:∀ b:UInt8,IntKind.i64.wrap (b.toNat:Int)=b.toNat:=fun b=>i64w (by have:=b.toNat_lt;omega)
  have b1:=(code.getD (p.tmod code.length).toNat default).toNat_lt
  have b2:=(code.getD ((p * 7+3).tmod code.length).toNat default).toNat_lt
  have b3:=(code.getD p.toNat default).toNat_lt
  have t4:=t1 p hp.1
  have t5:=t2 p hp.1
  have t6:=t1 (p * 7+3) (by omega)
  have t7:=t2 (p * 7+3) (by omega)
  clear t1 t2
  with_reducible repeat' (first|rw [i64w (by omega)];try simp only [go_sem,hpp,byR,b8]|refine br ?_ ?_<;>intro h e<;>(try simp only [e,go_sem,hpp,byR,b8])<;>clear e|refine sd ?_<;>try simp only [go_sem,hpp,byR,b8]|fail)
  · exact retN (.int .i64 0) [rdH code (p+1)] [] (by simp only [go_sem]) ⟨0,by omega,by omega,rfl,rfl⟩ (by simp only [go_sem,rdH]) (by simp [argH,getN,rdH]) (by simp only [go_sem,rdH])
  · exact retN (.int .i64 0) [rdH code (p+1)] [] (by simp only [go_sem]) ⟨0,by omega,by omega,rfl,rfl⟩ (by simp only [go_sem,rdH]) (by simp [argH,getN,rdH]) (by simp only [go_sem,rdH])
  · exact retN (.int .i64 (((code.getD p.toNat default).toNat:Int).tmod n)) [rdH code (p+1)] [] (by simp only [go_sem]) ⟨_,Int.tmod_nonneg _ (Int.natCast_nonneg _),fun h=>Int.tmod_lt_of_pos _ (by omega),rfl,rfl⟩ (by simp only [go_sem,rdH]) (by simp [argH,getN,rdH]) (by simp only [go_sem,rdH])
  have hl:(code.length:Int)≠0:=by assumption
  have t3:=t3 hl
  have t5:=t5 (by omega)
  have t7:=t7 (by omega)
  generalize hT:p.tdiv code.length=T at *
  have w1:IntKind.i64.wrap (p * 7)=p * 7:=i64w (by omega)
  have w2:IntKind.i64.wrap (p * 7+3)=p * 7+3:=i64w (by omega)
  have w3:∀ b:UInt8,IntKind.i64.wrap ((b.toNat:Int) * 131)=b.toNat * 131:=fun b=>i64w (by have:=b.toNat_lt;omega)
  have w4:∀ b:UInt8,IntKind.i64.wrap ((b.toNat:Int) * 1117)=b.toNat * 1117:=fun b=>i64w (by have:=b.toNat_lt;omega)
  have w5:∀ a b:UInt8,IntKind.i64.wrap ((a.toNat:Int) * 131+b.toNat * 1117)=a.toNat * 131+b.toNat * 1117:=fun a b=>i64w (by have:=a.toNat_lt;have:=b.toNat_lt;omega)
  have w6:IntKind.i64.wrap (p * 29)=p * 29:=i64w (by omega)
  have w7:∀ a b:UInt8,IntKind.i64.wrap ((a.toNat:Int) * 131+b.toNat * 1117+p * 29)=a.toNat * 131+b.toNat * 1117+p * 29:=fun a b=>i64w (by have:=a.toNat_lt;have:=b.toNat_lt;omega)
  have w8:IntKind.i64.wrap T=T:=i64w (by omega)
  have w9:IntKind.i64.wrap (T * 53)=T * 53:=i64w (by omega)
  have w10:∀ a b:UInt8,IntKind.i64.wrap ((a.toNat:Int) * 131+b.toNat * 1117+p * 29+T * 53)=a.toNat * 131+b.toNat * 1117+p * 29+T * 53:=fun a b=>i64w (by have:=a.toNat_lt;have:=b.toNat_lt;omega)
  simp only [w1,w2,w3]
  refine effG (by omega) ?_
  simp only [go_sem,byR]
  with_reducible repeat' (first|refine br ?_ ?_<;>intro h e<;>(try simp only [e,go_sem,b8,byR,hT,w1,w2,w3,w4,w5,w6,w7,w8,w9,w10])<;>clear e|rw [i64w (by omega)]|refine sd ?_<;>try simp only [go_sem,b8,byR,hT,w1,w2,w3,w4,w5,w6,w7,w8,w9,w10]|fail)
  generalize hX:(((code.getD (p.tmod code.length).toNat default).toNat:Int) * 131+(code.getD ((p * 7+3).tmod code.length).toNat default).toNat * 1117+p * 29+T * 53)=X
  have hX2:0≤X∧X<1099511627776:=by omega
  have hd1:0≤X.tdiv 64:=Int.tdiv_nonneg hX2.1 (by omega)
  have hd2:X.tdiv 64≤X:=Int.tdiv_le_self _ hX2.1
  have w11:IntKind.i64.wrap (X.tdiv 64)=X.tdiv 64:=i64w (by omega)
  rw [w11]
  have hb:=xor_nn hX2 (show 0≤X.tdiv 64∧X.tdiv 64<1099511627776 by omega)
  exact retN (.int .i64 ((bits .xor .i64 X (X.tdiv 64)).tmod n)) [rdH code (p+1)] [] (by simp only [go_sem]) ⟨_,Int.tmod_nonneg _ hb,fun h=>Int.tmod_lt_of_pos _ (by omega),rfl,rfl⟩ (by simp only [go_sem,rdH]) (by simp [argH,getN,rdH]) (by simp only [go_sem,rdH])
theorem pkN (code:B) (P N:Int) (dd:Nat) (hc:code.length≤2000) {vs:List V} {d:Option Nat} {st:St} {K:St→List Nat→List Nat→Prop}
    (hk:∀ k:Int,0≤k→(1≤N→k<N)→K (st.app d ((V.int .i64 k).rn (bk [0] 1 dd)) (outU (bk [0] 1 dd) 0 [rdH code (P+1)]++deads ([0].drop 1++bif true then [] else []))) (callTc [0] [] dd 1) (callTc [0] (bif true then [] else []) dd 1))
    (hp:0≤P∧P≤1000000000:=by omega) (hn:N≤1000000:=by omega)
    (hw:WkL (Wk (fun c=>c∈[]) (nsF [0]) st.h (chH [rdH code P])) vs [.pv 0 0,.int .i64 N]:=by simp only [go_sem,rdH];first|done|simp)
    (hs:NsL (fun n s=>s.live=true∧WkH (fun c=>c∈[]) (nsF [0]) st.h (chH [rdH code P]) (st.h n) s) [0] [rdH code P]:=by simp only [go_sem,rdH];first|done|simp)
    (hf:∀ i,i<1→st.h (newN dd i)=.fresh:=by intro i hi;obtain rfl:i=0:=(by omega);simp only [go_sem]):CallV Tryz.prog G 32 vs d st K:=by
  refine callN (c32 code P N hc hp hn) [0] [] true dd 1 hw hs (by simp) (by simp) (by simp) ?_ hf ?_
  · rintro _ _ ⟨k,_,_,rfl,rfl⟩;exact ⟨by simp,by simp,.inl rfl,fun i hi=>by obtain rfl:i=0:=(by omega);simp [chH,stepOk,rdH]⟩
  · rintro _ _ ⟨k,k1,k2,rfl,rfl⟩
    exact hk k k1 k2
end Go.Proofs.YtggifndkolojmaaGreatDoor.W
namespace Go.Proofs.YtggifndkolojmaaGreatDoor.W
open Go Go.RowKit Go.Proofs Go.Proofs.YtggifndkolojmaaGreatDoor.VL Go.Proofs.YtggifndkolojmaaGreatDoor.M Go.ChangeShapes Go.WideShapes
theorem laidOut:laidOutB Tryz.prog=true:=by kernel_rfl
theorem mapF:mapsRowed Tryz.prog=true:=by kernel_rfl
theorem mayF:Tryz.prog.mayEnter=true:=by kernel_rfl
theorem stoF:Tryz.prog.stopsHeard=true:=by kernel_rfl
theorem lifF:(Rows.fnWorldThereRow.lifted == Tryz.prog.liftsFinal)=true:=by kernel_rfl
theorem pkeF:(Rows.fnWorldThereRow.plainKeys == Tryz.prog.plainKeys)=true:=by kernel_rfl
theorem makF:(Tryz.prog.make == some Rows.fnWorldThereRow.make)=true:=by kernel_rfl
theorem own:ownKnob Tryz.prog.godebug=none:=by kernel_rfl
def noO:Nat→Prop:=fun _=>False
def noH:Nat→Hs:=fun _=>.fresh
def noρ:Nat→VL.Loc:=fun _=>default
theorem noB (W:World):owns ⟨W,blocks noρ (chH []),fun _=>False,0,noρ⟩ noρ (chH [])=noO:=by
  funext b
  apply propext
  constructor
  · rintro (h|⟨c,h,_⟩)
    · exact h
    · simp [chH,Hs.live] at h
  · intro h;exact h.elim
theorem FnR.calls {P:Program} {G:Glob} {f:FuncId} {vs:List V} {b:Bool} (F:FnR P G f vs (.bool b)) {W:World} {us:List Value} (hg:G.g W) (ha:DenArgs W noO noρ noH vs us) :
    Calls P f us.toArray W fun e W'=>e=.returned (.bool b)∧Below W.heap.size W W':=by
  have hc:chH []=noH:=by funext x;simp [chH,noH]
  have nl:∀ c,(noH c).live=true→False:=fun c h=>by cases h
  have hb:∀ b,¬ blocks noρ (chH []) b:=fun b ⟨c,h,_⟩=>by rw [hc] at h;exact nl c h
  refine (F.run W noρ (fun _=>False) us hg (fun b h=>h.elim) (fun b h=>h.elim) (fun b h=>(hb b h).elim) ⟨rfl,rfl,rfl,Nat.le_refl _,fun _ _ _=>rfl,fun c=>(by rw [hc];trivial),fun c h=>(by rw [hc] at h;exact (nl c h).elim),fun c c' h=>(by rw [hc] at h;exact (nl c h).elim),fun i hi=>absurd hi (Nat.not_lt_zero _)⟩ (by rw [noB,hc];exact ha)).mono fun e W' hp=>?_
  obtain ⟨u,res,out,ρ',rfl,⟨rfl,rfl⟩,r,hd⟩:=hp
  refine ⟨by rw [inv_bool hd],r.os,r.tape,r.output,r.grow,fun k hk=>r.keep k hk (hb k)⟩
theorem gES:Tryz.prog.globalNamed "strconv.ErrSyntax"=some 1:=by kernel_rfl
theorem gER:Tryz.prog.globalNamed "strconv.ErrRange"=some 2:=by kernel_rfl
theorem gESt:(Tryz.prog.globals[1]?).map (·.type)=some 133:=by kernel_rfl
theorem gERt:(Tryz.prog.globals[2]?).map (·.type)=some 133:=by kernel_rfl
theorem rowES (u:TypeId) (h:Tryz.prog.typeName? 3 u=some "*errors.errorString"):u=244 :=
  typeName_ptr_named (nm:= "errors.errorString") (by kernel_rfl) (by kernel_rfl) (by decide) u h
theorem gOk {l:List (String × DataW Unit)} {W:World} (hl:l=Rows.fnWorldThereRow.laid) (hL:laidMetH Tryz.prog l W) (hs:W.ShapedOpen Tryz.prog):G.g W:=by
  subst hl
  rw [MakeChecks.laidMetH_plain _ _ _ (by kernel_rfl)] at hL
  obtain ⟨a0,s0,hv0,-,-,-⟩:=laid_sentinel hL.tail.tail.tail gER gERt Tryz.underlying133 rowES Tryz.underlying244 Tryz.underlying246 rfl rfl Tryz.underlying9 (by kernel_rfl) (by kernel_rfl)
  obtain ⟨a1,s1,hv1,-,-,-⟩:=laid_sentinel hL.tail.tail.tail.tail gES gESt Tryz.underlying133 rowES Tryz.underlying244 Tryz.underlying246 rfl rfl Tryz.underlying9 (by kernel_rfl) (by kernel_rfl)
  refine ⟨cell_of_shapedOpen_int (t:=3) (zero:=#[.int .i64 0]) hs (of_decide_eq_true (by kernel_rfl)) (by kernel_rfl) rfl (by kernel_rfl) (by kernel_rfl) Tryz.underlying3, ?_, ?_⟩
  · exact ⟨_,by have h0:=World.var?_cell gES hv1 0;simpa using h0,.inr ⟨_,_,rfl⟩⟩
  · exact ⟨_,by have h0:=World.var?_cell gER hv0 0;simpa using h0,.inr ⟨_,_,rfl⟩⟩
theorem open_code {H:Type} {enc:TypeId × Value→H} {W:World} {v:Value} {d:DataW H} {ps:List MemPlace} (h:DataW.Trod enc Tryz.prog W 0 (fun _=>true) true 22 v d ps) (hv:∃ a l c,v=.slice a l c) :
    ∃ code:B,Den W noO noρ noH (.sl 1 (code.map byR)) v:=by
  obtain ⟨a0,len0,cap0,rfl⟩:=hv
  obtain ⟨fuel,hf⟩:=h
  rcases open_ints Tryz.underlying22 Tryz.underlying5 (by kernel_rfl) hf with ⟨hcs,_⟩|⟨x,l,c,zs,hcs,_,hl,hm,hz,_,hcell,hwz⟩
  · simp [Value.cells] at hcs
    obtain ⟨rfl,rfl,rfl⟩:=hcs
    exact ⟨[],Imm.esl 1 none 0⟩
  · simp [Value.cells] at hcs
    obtain ⟨rfl,rfl,rfl⟩:=hcs
    simp only [if_true] at hz
    refine ⟨(zs.take len0).map fun z=>UInt8.ofNat z.toNat, ?_⟩
    have hb:∀ (i:Nat),i<len0→∃ z,zs[i]?=some z∧0≤z∧z≤255∧W.cell? (x.add i)=some (.int .u8 z):=fun i hi=>by
      have hiz:i<zs.length:=by omega
      have:=bounds_u8 (hwz _ (List.getElem_mem hiz))
      refine ⟨zs[i],List.getElem?_eq_getElem hiz,this.1,this.2, ?_⟩
      rw [hcell i hiz]
      simp [List.getD,hiz]
    have hlen:((zs.take len0).map fun z=>UInt8.ofNat z.toNat).length=len0:=by simp;omega
    cases len0 with
    | zero=>exact Imm.esl 1 _ _
    | succ n =>
      obtain ⟨b,o,sp⟩:=x
      have hsp:sp=none:=by
        obtain ⟨z,_,_,_,h3⟩:=hb 0 (by omega)
        simp only [Addr.add,if_true] at h3
        unfold World.cell? at h3
        split at h3
        · split at h3
          · cases h3
          · rename_i hs;cases sp with
            | none=>rfl
            | some k=>simp at hs
        · cases h3
      subst hsp
      have hlt:b<W.heap.size:=by
        obtain ⟨z,_,_,_,h3⟩:=hb 0 (by omega)
        simp only [Addr.add,if_true] at h3
        unfold World.cell? at h3
        split at h3
        · rename_i hh;exact (Array.getElem?_eq_some_iff.1 hh).1
        · cases h3
      have key:=Imm.sl (w:=W) (O:=noO) 1 (((zs.take (n+1)).map fun z=>UInt8.ofNat z.toNat).map byR) b o cap0 (fun i _=>.int .u8 (zs.getD i 0)) (fun h=>h) hlt (by simp;omega) (fun r hr=>by
          obtain ⟨y,_,rfl⟩:=List.mem_map.1 hr;rfl) (by simp;omega) ?_ ?_
      · have e:(((zs.take (n+1)).map fun z=>UInt8.ofNat z.toNat).map byR).length=n+1:=by simp;omega
        rw [e] at key
        exact key
      · intro i r j v hr hv
        have hi:i<n+1:=by have:=(List.getElem?_eq_some_iff.1 hr).1;simp at this;omega
        obtain ⟨z,h1,_,_,h3⟩:=hb i hi
        simp only [List.getElem?_map,List.getElem?_take,if_pos hi,h1,Option.map_some,Option.some.injEq] at hr
        subst hr
        have hj:j=0:=by
          cases j with
          | zero=>rfl
          | succ j=>simp [byR] at hv
        subst hj
        have ha:(⟨b,o+(i * 1+0),none⟩:Addr)=(⟨b,o,none⟩:Addr).add i:=by
          unfold Addr.add
          split
          · rename_i h0;subst h0;rfl
          · simp
        rw [ha,h3]
        simp [List.getD,h1]
      · intro i r j v hr hv
        have hi:i<n+1:=by have:=(List.getElem?_eq_some_iff.1 hr).1;simp at this;omega
        obtain ⟨z,h1,h2,h2',_⟩:=hb i hi
        simp only [List.getElem?_map,List.getElem?_take,if_pos hi,h1,Option.map_some,Option.some.injEq] at hr
        subst hr
        cases j with
        | succ j=>simp [byR] at hv
        | zero =>
          simp only [byR,List.getElem?_cons_zero,Option.some.injEq] at hv
          subst hv
          have:((UInt8.ofNat z.toNat).toNat:Int)=zs.getD i 0:=by
            simp only [List.getD,h1,Option.getD_some]
            rw [UInt8.toNat_ofNat']
            omega
          rw [this]
          exact Imm.int _ _
end Go.Proofs.YtggifndkolojmaaGreatDoor.W
namespace Go.Proofs.YtggifndkolojmaaGreatDoor.W
open Go Go.RowKit Go.Proofs Go.Proofs.YtggifndkolojmaaGreatDoor.VL Go.Proofs.YtggifndkolojmaaGreatDoor.M
attribute [local congr] optK_congr guardK_congr condK_congr runT_congr runD_congr wpI_congr CallV_congr LoopI_congr pureK_congr effK_congr calK_congr stepV_congr doV_congr exN_congr exB_congr retF_congr retQ_congr gK_congr condW_congr ldK_congr stoK_congr
attribute [local go_sem] argL_cons argL_nil argH_nil argH_cons chH_getH wpI_seq wpI_reg wpI_drw wpI_ret cond_k condW_t condW_f wpI_skip wpI_block wpI_exit wpI_loop exN_n exN_r exN_e exB_n exB_r exB_h exB_m runT_k kT_e runT_nil runD_k kD_e runD_nil step_u step_k gK_t gK_f do_mv do_bino bo_add bo_sub bo_mul bo_subu bo_quo bo_rem bo_xor bo_eql bo_neq bo_lss bo_leq bo_gtr bo_geq bo_cat bo_eqs bo_nes do_pick do_call do_cal calK_f do_box do_alloc do_ldk ldK_s do_stok stoK_s do_fad do_nilc do_not do_neg do_len do_lens do_ext do_eqs do_beq do_isn do_cvi do_sls do_idx do_mn do_mx do_build do_mkf do_s2b do_b2s do_slv do_iad do_bsl do_mks do_app ev_t ev_c app_some app_none
attribute [local go_sem] List.nil_append List.cons_append List.append_nil getL_hit getL_miss getH_nil getH_hit getH_miss nm_eq ne_eq Nat.reduceEqDiff not_false_eq_true Nat.reduceAdd Nat.add_zero Nat.zero_add if_true if_false ite_true ite_false pureK_s effK_s optK_s gdV_t gdV_f gdV_s pick_b ge_iff_le gt_iff_lt cond_true cond_false fresh_k cells_agg cells_int cells_bool cells_str cells_own cells_sl cells_nils ld_pv ld_pa ld_ip ldVar_t ldVar_f ldArr_t ldArr_f ldRow_t ldRow_f ldA_s ld1_s fad_pv fad_pa fad_ip nilc_pv nilc_pa nilc_ip not_b neg_i cvi_i ext_t retF_n retF_r
attribute [local go_sem] resV_k rvs_nil rvs_t rvs_c fstO_s consO_s resK_s resL_1 resL_2 resL_3 resL_4  Option.some.injEq List.map_cons List.map_nil List.all_cons List.all_nil Bool.and_true Bool.and_self Bool.not_true Bool.not_false Option.map_some Option.map_none sls_s slsG_s loV_n loV_i hiV_n hiV_i idx_s mn_i mx_i s2b_s b2s_s bytO_s bytes_nil bytes_cons conB_s slv_sl slv_own slv_nils slvG_s slvN_s slvO_s iad_sl iadG_map take_map drop_map List.length_map iad_own iad_view iadO_a iadW_a mks_i rowO_nils rowO_sl rowO_own rowA_a eq_self appG_nils appG_own appO_a guardP_T mapA_s bld_nil mkf_nil bldF_e fill_nil fill_cons mkf_e lens_s len_nils len_sl len_own len_view isn_nile isn_erre List.getElem?_cons_zero List.getElem?_cons_succ List.length_cons List.length_nil decide_true decide_false Int.toNat_natCast Int.cast_ofNat_Int Int.reduceLT Int.reduceLE Int.reduceEq Int.reduceAdd Int.reduceSub Int.reduceMul Int.reduceNeg Int.reduceToNat List.getD_cons_zero List.getD_cons_succ not_true_eq_false not_false_eq_true Bool.false_eq_true Bool.true_eq_false reduceCtorEq
attribute [local go_sem] E.row Pc.row Pair.row Part.row Strm.row Flw.row Pk.row Door.row Conv.row World.row Ev.row rdV E.eta Pc.eta Pair.eta Part.eta Strm.eta Pk.eta Flw.eta Conv.eta Door.eta World.eta Ev.eta
attribute [local go_sem] sub_ok st_pv st_pa stVar_v stArr_a Nat.le_refl List.drop_zero List.drop_succ_cons List.take_succ_cons List.take_zero setR Nat.reduceLeDiff
attribute [local go_sem] wk_bot wk2_bot wk1_bot wk_undef wk_tup_e wk2_agg_e wk_agg_e wk1_fn_e wk2_fn_e wk_fn_e wkl_nil wkl_cons wkh_var_e wkh_arr_e wkh_fresh_e wkh_dead_v wkh_dead_a wkh_dead_d wk0_undef wk0_int wk0_bool wk0_str wk0_nils wk0_nils_sl wk0_nilp wk0_nile wk0_erre wk0_sl wk0_iptr wk0_own wk0_view wk0_pv wk0_pa fzA_a fzW_a fzP_v wk0_own_sl wk0_view_sl wk0_pv_iptr WkS_nil WkS_cons WkN_nil WkN_cons nonB_nil nonB_cons getN_nil getN_hit getN_miss pinOk_0 pinOk_s and_true true_and and_self
attribute [local go_sem] bot_int one_int unt_int clo_int bot_bool one_bool unt_bool clo_bool bot_str one_str unt_str clo_str bot_nils one_nils unt_nils clo_nils bot_nilp one_nilp unt_nilp clo_nilp bot_nile one_nile unt_nile clo_nile bot_erre one_erre unt_erre clo_erre bot_raw one_raw unt_raw clo_raw bot_sl one_sl unt_sl clo_sl bot_own one_own unt_own clo_own bot_view one_view unt_view clo_view bot_pv one_pv unt_pv clo_pv bot_pa one_pa unt_pa clo_pa bot_iptr one_iptr unt_iptr clo_iptr unt_agg unt_fn one_fn
attribute [local go_sem] rn_tup rn_agg rn2_agg rn_fn rn2_fn rnfn1 rn_bot rn2_bot rn1_bot rn0_int rn0_bool rn0_str rn0_nils rn0_nilp rn0_nile rn0_erre rn0_sl rn0_iptr rn0_own rn0_view rn0_pv rn0_pa hrn_var hrn_arr hrn_dead outU_nil outU_cons deads_nil deads_cons bk_ge bk_lt nsF_0 nsF_s chH_0 chH_s chH_n newN_e andB_s eqR_nil eqR_i eqR_b eqR_s mapX_f mapX_t eqs_a beq_f beq_t live_arr live_var nsl_nil nsl_cons Nat.reduceMul Nat.reduceLT Nat.zero_le Nat.not_lt_zero
attribute [local go_sem] mV lD lA fD bN eX oP nP sR i0 s0
def ic58:IC:=sR [oP 1 (.box 54 (.t 0)),oP 2 (.mv (.c (.bool false)))] (.seq (sR [fD 3 1 1,lA 4 2 3,oP 5 (.call 114 [.t 4]),oP 6 (.un .not (.t 5)),mV 7 6,⟨some 8,some (7,false),.fad 3 (.t 1)⟩,⟨some 9,some (7,false),.ld 2 true (.t 8)⟩,⟨some 10,some (7,false),.call 114 [.t 9]⟩,⟨some 11,some (7,false),.un .not (.t 10)⟩,oP 12 (.pick (.t 7) (.c (.bool true)) (.t 11)),mV 13 12,⟨some 14,some (13,false),.fad 5 (.t 1)⟩,⟨some 15,some (13,false),.ld 1 false (.t 14)⟩,⟨some 16,some (13,false),.call 38 [.t 15,.c i0,.c (.int .i64 99)]⟩,⟨some 17,some (13,false),.un .not (.t 16)⟩,oP 18 (.pick (.t 13) (.c (.bool true)) (.t 17))] (.cond (.t 18) (sR [oP 2 (.mv (.c (.bool false)))] .ret) .skip)) (sR [fD 19 0 1,lD 20 1 19,oP 21 (.bin .eql (.t 20) (.c (.int .i64 1))),mV 22 21,⟨some 23,some (22,true),.fad 6 (.t 1)⟩,⟨some 24,some (22,true),.ld 1 false (.t 23)⟩,⟨some 25,some (22,true),.call 44 [.t 24]⟩,oP 26 (.pick (.t 22) (.t 25) (.c (.bool false))),mV 27 26,⟨some 28,some (27,true),.fad 6 (.t 1)⟩,⟨some 29,some (27,true),.ld 1 false (.t 28)⟩,⟨some 30,some (27,true),.bin .neq (.t 29) (.c s0)⟩,oP 31 (.pick (.t 27) (.t 30) (.c (.bool false))),mV 32 31,⟨some 33,some (32,false),.fad 0 (.t 1)⟩,⟨some 34,some (32,false),.ld 1 false (.t 33)⟩,⟨some 35,some (32,false),.bin .eql (.t 34) (.c (.int .i64 2))⟩,⟨some 36,some (32,false),.mv (.t 35)⟩,⟨some 37,some (36,true),.fad 6 (.t 1)⟩,⟨some 38,some (36,true),.ld 1 false (.t 37)⟩,⟨some 39,some (36,true),.bin .eql (.t 38) (.c s0)⟩,⟨some 40,some (32,false),.pick (.t 36) (.t 39) (.c (.bool false))⟩,oP 41 (.pick (.t 32) (.c (.bool true)) (.t 40)),mV 2 41] .ret))
theorem dg58:Dg Tryz.prog 58 Tryz.f58 ic58 [(.t 2)]:=⟨Tryz.func58,by kernel_rfl,by kernel_rfl⟩
theorem isE (s:B):List.isEmpty s=decide (s=[]):=by cases s<;>simp
theorem c58 (p:Pk) (h:p.text.length≤2000000):FnR Tryz.prog G 58 [.agg [.int .i64 p.kind,.int .i64 p.frm.a,.int .i64 p.frm.p,.int .i64 p.to.a,.int .i64 p.to.p,.int .i64 p.at_,.str p.text]] (.bool (pkOk p)):=by
  refine mF dg58 Tryz.ntmps58 ?_
  simp only [ic58,go_sem]
  with_reducible repeat' (first|refine br ?_ ?_<;>intro h e<;>(try simp only [e,go_sem])<;>clear e|rw [i64w (by omega)]|refine sd ?_<;>try simp only [go_sem]|(first|refine cr (c114 ..) ?_|refine cr (c38 ..) ?_|refine cr (c44 ..) ?_)<;>try simp only [go_sem]|fail)
  all_goals simp_all [pkOk,isE]
def ic51:IC:=sR [oP 1 (.box 54 (.t 0)),oP 2 (.mv (.c (.bool false)))] (.seq (sR [fD 3 1 1,lA 4 2 3,oP 5 (.call 104 [.t 4]),oP 6 (.un .not (.t 5)),mV 7 6,⟨some 8,some (7,false),.fad 3 (.t 1)⟩,⟨some 9,some (7,false),.ld 2 true (.t 8)⟩,⟨some 10,some (7,false),.call 104 [.t 9]⟩,⟨some 11,some (7,false),.un .not (.t 10)⟩,oP 12 (.pick (.t 7) (.c (.bool true)) (.t 11)),mV 13 12,⟨some 14,some (13,false),.fad 5 (.t 1)⟩,⟨some 15,some (13,false),.ld 1 false (.t 14)⟩,⟨some 16,some (13,false),.call 63 [.t 15,.c i0,.c (.int .i64 99)]⟩,⟨some 17,some (13,false),.un .not (.t 16)⟩,oP 18 (.pick (.t 13) (.c (.bool true)) (.t 17))] (.cond (.t 18) (sR [oP 2 (.mv (.c (.bool false)))] .ret) .skip)) (.seq (sR [fD 19 0 1,lD 20 1 19] (.block 0 (sR [oP 22 (.bin .eql (.t 20) (.c (.int .i64 1))),mV 21 22] (.cond (.t 21) (sR [fD 23 6 1,lD 24 1 23,oP 25 (.call 105 [.t 24]),mV 26 25,⟨some 27,some (26,true),.fad 6 (.t 1)⟩,⟨some 28,some (26,true),.ld 1 false (.t 27)⟩,⟨some 29,some (26,true),.bin .neq (.t 28) (.c s0)⟩,oP 30 (.pick (.t 26) (.t 29) (.c (.bool false))),mV 2 30] .ret) (sR [oP 32 (.bin .eql (.t 20) (.c (.int .i64 2))),mV 31 32] (.cond (.t 31) (sR [fD 33 6 1,lD 34 1 33,oP 35 (.bin .eql (.t 34) (.c s0)),mV 2 35] .ret) .skip)))))) (sR [oP 2 (.mv (.c (.bool false)))] .ret)))
theorem dg51:Dg Tryz.prog 51 Tryz.f51 ic51 [(.t 2)]:=⟨Tryz.func51,by kernel_rfl,by kernel_rfl⟩
theorem c51 (p:Pk) (h:p.text.length≤2000000):FnR Tryz.prog G 51 [.agg [.int .i64 p.kind,.int .i64 p.frm.a,.int .i64 p.frm.p,.int .i64 p.to.a,.int .i64 p.to.p,.int .i64 p.at_,.str p.text]] (.bool (pkOk p)):=by
  refine mF dg51 Tryz.ntmps51 ?_
  simp only [ic51,go_sem]
  with_reducible repeat' (first|refine br ?_ ?_<;>intro h e<;>(try simp only [e,go_sem])<;>clear e|rw [i64w (by omega)]|refine sd ?_<;>try simp only [go_sem]|(first|refine cr (c104 ..) ?_|refine cr (c63 ..) ?_|refine cr (c105 ..) ?_)<;>try simp only [go_sem]|fail)
  all_goals simp_all [pkOk,isE]
def ic158:IC:=sR [oP 1 (.box 54 (.t 0)),oP 2 (.mv (.c (.bool false)))] (sR [fD 3 1 1,lA 4 2 3,oP 5 (.call 91 [.t 4]),mV 6 5,⟨some 7,some (6,true),.fad 3 (.t 1)⟩,⟨some 8,some (6,true),.ld 2 true (.t 7)⟩,⟨some 9,some (6,true),.call 112 [.t 8]⟩,oP 10 (.pick (.t 6) (.t 9) (.c (.bool false))),mV 2 10] .ret)
theorem dg158:Dg Tryz.prog 158 Tryz.f158 ic158 [(.t 2)]:=⟨Tryz.func158,by kernel_rfl,by kernel_rfl⟩
theorem c158 (p:Pk):FnR Tryz.prog G 158 [.agg [.int .i64 p.kind,.int .i64 p.frm.a,.int .i64 p.frm.p,.int .i64 p.to.a,.int .i64 p.to.p,.int .i64 p.at_,.str p.text]] (.bool p.outward):=by
  refine mF dg158 Tryz.ntmps158 ?_
  simp only [ic158,go_sem]
  with_reducible repeat' (first|refine br ?_ ?_<;>intro h e<;>(try simp only [e,go_sem])<;>clear e|rw [i64w (by omega)]|refine sd ?_<;>try simp only [go_sem]|(first|refine cr (c91 ..) ?_|refine cr (c112 ..) ?_)<;>try simp only [go_sem]|fail)
  all_goals simp_all [Pk.outward]
def ic73:IC:=sR [oP 1 (.box 54 (.t 0)),oP 2 (.mv (.c (.bool false)))] (sR [fD 3 1 1,lA 4 2 3,oP 5 (.call 112 [.t 4]),mV 6 5,⟨some 7,some (6,true),.fad 3 (.t 1)⟩,⟨some 8,some (6,true),.ld 2 true (.t 7)⟩,⟨some 9,some (6,true),.call 115 [.t 8]⟩,oP 10 (.pick (.t 6) (.t 9) (.c (.bool false))),mV 2 10] .ret)
theorem dg73:Dg Tryz.prog 73 Tryz.f73 ic73 [(.t 2)]:=⟨Tryz.func73,by kernel_rfl,by kernel_rfl⟩
theorem c73 (p:Pk):FnR Tryz.prog G 73 [.agg [.int .i64 p.kind,.int .i64 p.frm.a,.int .i64 p.frm.p,.int .i64 p.to.a,.int .i64 p.to.p,.int .i64 p.at_,.str p.text]] (.bool p.inward):=by
  refine mF dg73 Tryz.ntmps73 ?_
  simp only [ic73,go_sem]
  with_reducible repeat' (first|refine br ?_ ?_<;>intro h e<;>(try simp only [e,go_sem])<;>clear e|rw [i64w (by omega)]|refine sd ?_<;>try simp only [go_sem]|(first|refine cr (c112 ..) ?_|refine cr (c115 ..) ?_)<;>try simp only [go_sem]|fail)
  all_goals simp_all [Pk.inward]
def ic110:IC:=sR [oP 4 (.box 39 (.t 1)),oP 5 (.box 39 (.t 2)),oP 6 (.mv (.c i0))] (.seq (sR [oP 7 (.mv (.c i0))] (.block 0 (.loop (.seq (sR [mV 8 7,mV 9 0,oP 10 (.len (.t 9)),bN 11 .lss 8 10] (.cond (.t 11) .skip (.exit 0))) (.seq (.block 1 (.seq (.drw [0,0,3,7,15,0,63,127,255,255,1023,2047,4095,255,16383,32767] [(0,mV 14 0),(1,mV 15 7),(2,oP 16 (.iad 8 (.t 14) (.t 15))),(3,fD 17 0 16),(4,lA 18 2 17),(5,lA 19 2 4),(6,oP 20 (.eqs false [.i,.i] (.t 18) (.t 19))),(7,mV 21 20),(8,⟨some 22,some (21,true),.mv (.t 0)⟩),(9,⟨some 23,some (21,true),.mv (.t 7)⟩),(10,⟨some 24,some (21,true),.iad 8 (.t 22) (.t 23)⟩),(11,⟨some 25,some (21,true),.fad 2 (.t 24)⟩),(12,⟨some 26,some (21,true),.ld 2 true (.t 25)⟩),(13,⟨some 27,some (21,true),.ld 2 true (.t 5)⟩),(14,⟨some 28,some (21,true),.eqs false [.i,.i] (.t 26) (.t 27)⟩),(15,oP 29 (.pick (.t 21) (.t 28) (.c (.bool false))))]) (.cond (.t 29) (sR [mV 30 7,mV 6 30] .ret) .skip))) (.reg [mV 12 7,oP 13 (.bin .add (.t 12) (.c (.int .i64 1))),mV 7 13])))))) (sR [oP 6 (.mv (.c (.int .i64 (-1))))] .ret))
theorem dg110:Dg Tryz.prog 110 Tryz.f110 ic110 [(.t 6)]:=⟨Tryz.func110,by kernel_rfl,by kernel_rfl⟩
theorem c110 (fs:List Flw) (i o:E) (hl:fs.length≤2000000):FnR Tryz.prog G 110 [.sl 8 (fs.map Flw.row),.agg [.int .i64 i.a,.int .i64 i.p],.agg [.int .i64 o.a,.int .i64 o.p]] (.int .i64 (ixI (flowIx fs i o))):=by
  refine mF dg110 Tryz.ntmps110 ?_
  simp only [ic110,go_sem]
  refine loopN (fun k:Nat=>⟨getL [(0,.sl 8 (fs.map Flw.row)),(4,.pv 1004 0),(5,.pv 1005 0),(7,.int .i64 (k:Int))],getH [(1004,.var 39 [.int .i64 i.a,.int .i64 i.p]),(1005,.var 39 [.int .i64 o.a,.int .i64 o.p])]⟩) (fun k=>fs.length - k)
    (fun k=>k≤fs.length∧flowIx fs i o=(flowIx (fs.drop k) i o).map (·+k)) 0 (leQ []) ⟨Nat.zero_le _,by simp⟩ ?_
  intro k ⟨hk,ha⟩
  simp only [go_sem]
  by_cases h:(k:Int)<fs.length
  · have hil:k<fs.length:=by omega
    have hg:fs.getD k default=fs[k]:=by simp [List.getD,hil]
    rw [List.drop_eq_getElem_cons hil,flowIx_cons] at ha
    simp only [eq_true h,go_sem]
    with_reducible repeat' (first|refine br ?_ ?_<;>intro h e<;>(try simp only [e,go_sem,hg,E.ext_iff'])<;>clear e|rw [i64w (by omega)]|refine sd ?_<;>try simp only [go_sem,hg,E.ext_iff']|fail)
    · rw [if_pos ⟨by assumption,h⟩] at ha
      rw [ha];simp [ixI]
    · rw [if_neg (fun hc=>h hc.2)] at ha
      refine ⟨k+1,by omega,⟨by omega,by rw [ha];cases flowIx (fs.drop (k+1)) i o<;>simp;omega⟩,(leQ [])⟩
    · rw [if_neg (fun hc=>h hc.1)] at ha
      refine ⟨k+1,by omega,⟨by omega,by rw [ha];cases flowIx (fs.drop (k+1)) i o<;>simp;omega⟩,(leQ [])⟩
  · simp only [eq_false h,go_sem]
    have:k=fs.length:=by omega
    subst this
    rw [ha,List.drop_length];rfl
def ic85:IC:=sR [oP 3 (.box 46 (.t 0)),oP 4 (.mv (.c (.bool false)))] (sR [fD 5 0 3,lA 6 2 5,lA 7 2 1,oP 8 (.eqs false [.i,.i] (.t 6) (.t 7)),mV 9 8,⟨some 10,some (9,true),.fad 2 (.t 3)⟩,⟨some 11,some (9,true),.ld 2 true (.t 10)⟩,⟨some 12,some (9,true),.ld 2 true (.t 2)⟩,⟨some 13,some (9,true),.eqs false [.i,.i] (.t 11) (.t 12)⟩,oP 14 (.pick (.t 9) (.t 13) (.c (.bool false))),mV 4 14] .ret)
theorem dg85:Dg Tryz.prog 85 Tryz.f85 ic85 [(.t 4)]:=⟨Tryz.func85,by kernel_rfl,by kernel_rfl⟩
theorem c85 (f:Flw) (i o:E):FnR Tryz.prog G 85 [.agg [.int .i64 f.ins.a,.int .i64 f.ins.p,.int .i64 f.out.a,.int .i64 f.out.p,.str f.up.inn,.sl 2 (f.up.parts.map Part.row),.str f.down.inn,.sl 2 (f.down.parts.map Part.row)],.iptr [.int .i64 i.a,.int .i64 i.p] 0,.iptr [.int .i64 o.a,.int .i64 o.p] 0] (.bool (decide (f.ins=i) && decide (f.out=o))):=by
  refine mF dg85 Tryz.ntmps85 ?_
  simp only [ic85,go_sem,E.ext_iff']
  with_reducible repeat' (first|refine br ?_ ?_<;>intro h e<;>(try simp only [e,go_sem,E.ext_iff'])<;>clear e|rw [i64w (by omega)]|refine sd ?_<;>try simp only [go_sem,E.ext_iff']|fail)
  all_goals simp_all
def ic84:IC:=sR [oP 4 (.mv (.c i0))] (.seq (sR [mV 6 0,oP 7 (.len (.t 6)),oP 8 (.mv (.c i0))] (.block 0 (.loop (sR [bN 9 .lss 8 7] (.seq (.cond (.t 9) .skip (.exit 0)) (.seq (.block 1 (sR [mV 10 8,mV 5 10] (sR [mV 11 1,mV 12 0,mV 13 5,oP 14 (.iad 8 (.t 12) (.t 13)),lA 15 8 14,oP 16 (.cal (.t 11) [.t 15])] (.cond (.t 16) (sR [mV 17 5,mV 4 17] .ret) .skip)))) (.reg [oP 18 (.bin .add (.t 8) (.c (.int .i64 1))),mV 8 18]))))))) (sR [oP 4 (.mv (.c (.int .i64 (-1))))] .ret))
theorem dg84:Dg Tryz.prog 84 Tryz.f84 ic84 [(.t 4)]:=⟨Tryz.func84,by kernel_rfl,by kernel_rfl⟩
theorem c84 (fs:List Flw) (i o:E) (hl:fs.length≤2000000):FnR Tryz.prog G 84 [.sl 8 (fs.map Flw.row),.fn 85 [.iptr [.int .i64 i.a,.int .i64 i.p] 0,.iptr [.int .i64 o.a,.int .i64 o.p] 0]] (.int .i64 (ixI (flowIx fs i o))):=by
  refine mF dg84 Tryz.ntmps84 ?_
  simp only [ic84,go_sem]
  refine loopN (fun k:Nat=>⟨getL [(0,.sl 8 (fs.map Flw.row)),(1,.fn 85 [.iptr [.int .i64 i.a,.int .i64 i.p] 0,.iptr [.int .i64 o.a,.int .i64 o.p] 0]),(7,.int .i64 fs.length),(8,.int .i64 (k:Int))],getH []⟩) (fun k=>fs.length - k)
    (fun k=>k≤fs.length∧flowIx fs i o=(flowIx (fs.drop k) i o).map (·+k)) 0 (leQ []) ⟨Nat.zero_le _,by simp⟩ ?_
  intro k ⟨hk,ha⟩
  simp only [go_sem]
  by_cases h:(k:Int)<fs.length
  · have hil:k<fs.length:=by omega
    have hg:fs.getD k default=fs[k]:=by simp [List.getD,hil]
    rw [List.drop_eq_getElem_cons hil,flowIx_cons] at ha
    simp only [eq_true h,go_sem]
    with_reducible repeat' (first|refine br ?_ ?_<;>intro h e<;>(try simp only [e,go_sem,hg])<;>clear e|rw [i64w (by omega)]|refine sd ?_<;>try simp only [go_sem,hg]|fail)
    refine callR (c85 fs[k] i o) rfl rfl ?_
    simp only [go_sem]
    by_cases hc:fs[k].ins=i∧fs[k].out=o
    · rw [if_pos hc] at ha
      simp only [hc,go_sem]
      rw [ha];simp [ixI]
    · rw [if_neg hc] at ha
      have:(decide (fs[k].ins=i) && decide (fs[k].out=o))=false:=by
        rw [← Bool.decide_and];simpa using hc
      simp only [this,go_sem]
      with_reducible repeat' (first|refine br ?_ ?_<;>intro h e<;>(try simp only [e,go_sem])<;>clear e|rw [i64w (by omega)]|refine sd ?_<;>try simp only [go_sem]|fail)
      refine ⟨k+1,by omega,⟨by omega,by rw [ha];cases flowIx (fs.drop (k+1)) i o<;>simp;omega⟩,(leQ [])⟩
  · simp only [eq_false h,go_sem]
    have:k=fs.length:=by omega
    subst this
    rw [ha,List.drop_length];rfl
theorem mkf_pv1 (f a b:Nat):mkfF f [.pv a b]=some (.fn f [.pv a b]):=mkf_e rfl
theorem mkf_pv2 (f a b c d:Nat):mkfF f [.pv a b,.pv c d]=some (.fn f [.pv a b,.pv c d]):=mkf_e rfl
def ic39:IC:=sR [oP 3 (.box 30 (.t 0)),oP 4 (.box 39 (.t 1)),oP 5 (.box 39 (.t 2)),oP 6 (.mv (.c i0))] (sR [fD 7 1 3,lD 8 1 7,oP 9 (.mkf 85 [.t 4,.t 5]),oP 10 (.call 84 [.t 8,.t 9]),mV 6 10] .ret)
theorem dg39:Dg Tryz.prog 39 Tryz.f39 ic39 [(.t 6)]:=⟨Tryz.func39,by kernel_rfl,by kernel_rfl⟩
theorem c39 (rows:List (List V)) (fs:List Flw) (i o:E) (hl:fs.length≤2000000):FnR Tryz.prog G 39 [.agg [.sl 3 rows,.sl 8 (fs.map Flw.row)],.agg [.int .i64 i.a,.int .i64 i.p],.agg [.int .i64 o.a,.int .i64 o.p]] (.int .i64 (ixI (flowIx fs i o))):=by
  refine mF dg39 Tryz.ntmps39 ?_
  simp only [ic39,go_sem,mkf_pv2]
  refine callF (c84 fs i o hl) [1004,1005] true (by simp only [go_sem,List.mem_cons,true_or,or_true]) (by simp only [List.mem_cons,List.not_mem_nil,or_false];rintro c (rfl|rfl)<;>rfl) rfl (.inl rfl) ?_
  simp only [go_sem]
def ic55:IC:=sR [oP 1 (.box 30 (.t 0)),oP 2 (.mv (.c (.bool false)))] (.seq (sR [fD 5 0 1,lD 6 1 5,oP 7 (.call 43 [.t 6]),oP 8 (.un .not (.t 7)),mV 9 8,⟨some 10,some (9,false),.fad 1 (.t 1)⟩,⟨some 11,some (9,false),.ld 1 false (.t 10)⟩,⟨some 12,some (9,false),.len (.t 11)⟩,⟨some 13,some (9,false),.bin .gtr (.t 12) (.c (.int .i64 4))⟩,oP 14 (.pick (.t 9) (.c (.bool true)) (.t 13))] (.cond (.t 14) (sR [oP 2 (.mv (.c (.bool false)))] .ret) .skip)) (.seq (sR [fD 15 1 1,lD 16 1 15,oP 17 (.len (.t 16)),oP 18 (.mv (.c i0))] (.block 0 (.loop (sR [bN 19 .lss 18 17] (.seq (.cond (.t 19) .skip (.exit 0)) (.seq (.block 1 (sR [mV 20 18,oP 21 (.iad 8 (.t 16) (.t 18)),lA 22 8 21,oP 4 (.alloc 46 [i0,i0,i0,i0,s0,.nils,s0,.nils]),mV 3 20,nP (.sto 8 (.t 4) (.t 22))] (sR [fD 23 0 1,lD 24 1 23,fD 25 0 4,lA 26 2 25,oP 27 (.call 92 [.t 24,.t 26]),oP 28 (.bin .eql (.t 27) (.c i0)),mV 29 28,⟨some 30,some (29,false),.fad 2 (.t 4)⟩,⟨some 31,some (29,false),.ld 2 true (.t 30)⟩,⟨some 32,some (29,false),.call 112 [.t 31]⟩,⟨some 33,some (29,false),.un .not (.t 32)⟩,oP 34 (.pick (.t 29) (.c (.bool true)) (.t 33)),mV 35 34,⟨some 36,some (35,false),.ld 2 true (.t 1)⟩,⟨some 37,some (35,false),.fad 0 (.t 4)⟩,⟨some 38,some (35,false),.ld 2 true (.t 37)⟩,⟨some 39,some (35,false),.fad 2 (.t 4)⟩,⟨some 40,some (35,false),.ld 2 true (.t 39)⟩,⟨some 41,some (35,false),.call 39 [.t 36,.t 38,.t 40]⟩,⟨some 42,some (35,false),.mv (.t 3)⟩,⟨some 43,some (35,false),.bin .neq (.t 41) (.t 42)⟩,oP 44 (.pick (.t 35) (.c (.bool true)) (.t 43)),mV 45 44,⟨some 46,some (45,false),.fad 4 (.t 4)⟩,⟨some 47,some (45,false),.ld 2 true (.t 46)⟩,⟨some 48,some (45,false),.call 41 [.t 47]⟩,⟨some 49,some (45,false),.un .not (.t 48)⟩,oP 50 (.pick (.t 45) (.c (.bool true)) (.t 49)),mV 51 50,⟨some 52,some (51,false),.fad 6 (.t 4)⟩,⟨some 53,some (51,false),.ld 2 true (.t 52)⟩,⟨some 54,some (51,false),.call 41 [.t 53]⟩,⟨some 55,some (51,false),.un .not (.t 54)⟩,oP 56 (.pick (.t 51) (.c (.bool true)) (.t 55))] (.cond (.t 56) (sR [oP 2 (.mv (.c (.bool false)))] .ret) .skip)))) (.reg [oP 57 (.bin .add (.t 18) (.c (.int .i64 1))),mV 18 57]))))))) (sR [oP 2 (.mv (.c (.bool true)))] .ret)))
theorem dg55:Dg Tryz.prog 55 Tryz.f55 ic55 [(.t 2)]:=⟨Tryz.func55,by kernel_rfl,by kernel_rfl⟩
theorem c55 (d:Door) (h:DB d):FnR Tryz.prog G 55 [.agg [.sl 3 (d.map.map Pair.row),.sl 8 (d.flows.map Flw.row)]] (.bool (doorOk d)):=by
  refine mF dg55 Tryz.ntmps55 ?_
  obtain ⟨h1,h2,h3⟩:=h
  simp only [ic55,go_sem]
  refine callR (c43 d.map h1) rfl rfl ?_
  cases hm:mapOk d.map<;>simp only [go_sem]
  · simp [doorOk,hm]
  obtain ⟨hp,hml⟩:=mapOk_ports hm
  with_reducible repeat' (first|refine br ?_ ?_<;>intro h e<;>(try simp only [e,go_sem])<;>clear e|rw [i64w (by omega)]|refine sd ?_<;>try simp only [go_sem]|fail)
  · have:¬ d.flows.length≤4:=by omega
    simp [doorOk,this]
  refine loopN (fun k:Nat=>⟨getL [(1,.pv 1001 0),(16,.sl 8 (d.flows.map Flw.row)),(17,.int .i64 d.flows.length),(18,.int .i64 (k:Int))],getH [(1001,.var 30 [.sl 3 (d.map.map Pair.row),.sl 8 (d.flows.map Flw.row)])]⟩) (fun k=>d.flows.length - k)
    (fun k=>k≤d.flows.length∧∀ j,j<k→okFlow d j=true) 0 (leQ []) ⟨Nat.zero_le _,by omega⟩ ?_
  intro k ⟨hk,ha⟩
  simp only [go_sem]
  by_cases h:(k:Int)<d.flows.length
  · have hil:k<d.flows.length:=by omega
    have hg:d.flows.getD k default=d.flows[k]:=by simp [List.getD,hil]
    have hok:=okFlow_i hil
    obtain ⟨hs1,hs2⟩:=h3 _ (List.getElem_mem hil)
    have hz:=portOf_zero (fun p h=>by have:=(hp p h).1;omega) d.flows[k].ins
    have hix:ixI (flowIx d.flows d.flows[k].ins d.flows[k].out)=k↔(d.flows.take k).any (sameF d.flows[k].ins d.flows[k].out)=false:=by
      constructor
      · intro hx
        cases hf:flowIx d.flows d.flows[k].ins d.flows[k].out with
        | none=>rw [hf] at hx;simp [ixI] at hx
        | some j =>
          rw [hf] at hx;simp only [ixI] at hx
          obtain rfl:j=k:=by omega
          obtain ⟨_,_,_,_,h4⟩:=flowIx_some hf
          exact h4
      · intro hx
        rw [flowIx_at (List.getElem?_eq_getElem hil) rfl rfl hx];rfl
    simp only [eq_true h,go_sem]
    with_reducible repeat' (first|refine br ?_ ?_<;>intro h e<;>(try simp only [e,go_sem,hg])<;>clear e|rw [i64w (by omega)]|refine sd ?_<;>try simp only [go_sem,hg]|fail)
    refine callR (c92 d.map d.flows[k].ins.a d.flows[k].ins.p) rfl rfl ?_
    simp only [go_sem,hz]
    have st1:=c41 d.flows[k].up hs1
    have st2:=c41 d.flows[k].down hs2
    have fl:=c39 (d.map.map Pair.row) d.flows d.flows[k].ins d.flows[k].out h2
    with_reducible repeat' (first|refine br ?_ ?_<;>intro h e<;>(try simp only [e,go_sem,hix])<;>clear e|rw [i64w (by omega)]|refine sd ?_<;>try simp only [go_sem,hix]|(first|refine cr (c112 ..) ?_|refine cr (st1 ..) ?_|refine cr (st2 ..) ?_|refine cr (fl ..) ?_)<;>try simp only [go_sem,hix]|fail)
    all_goals first
      | (have hb:okFlow d k=false:=by rw [hok];simp_all
         rw [doorOk_bad hil hb])
      | skip
    refine ⟨k+1,by omega,⟨by omega,fun j hj=>?_⟩,(leQ [])⟩
    rcases Nat.lt_or_ge j k with hjk|hjk
    · exact ha j hjk
    · obtain rfl:j=k:=by omega
      rw [hok];simp_all
  · simp only [eq_false h,go_sem]
    have:k=d.flows.length:=by omega
    subst this
    rw [doorOk_iff.2 ⟨hm,by omega,ha⟩]
def ic53:IC:=sR [oP 1 (.box 30 (.t 0)),oP 2 (.mv (.c (.bool false)))] (.seq (sR [fD 7 0 1,lD 8 1 7,oP 9 (.call 107 [.t 8]),oP 10 (.un .not (.t 9)),mV 11 10,⟨some 12,some (11,false),.fad 1 (.t 1)⟩,⟨some 13,some (11,false),.ld 1 false (.t 12)⟩,⟨some 14,some (11,false),.len (.t 13)⟩,⟨some 15,some (11,false),.bin .gtr (.t 14) (.c (.int .i64 4))⟩,oP 16 (.pick (.t 11) (.c (.bool true)) (.t 15))] (.cond (.t 16) (sR [oP 2 (.mv (.c (.bool false)))] .ret) .skip)) (.seq (sR [oP 3 (.mv (.c i0))] (.block 0 (.loop (.seq (sR [mV 17 3,fD 18 1 1,lD 19 1 18,oP 20 (.len (.t 19)),bN 21 .lss 17 20] (.cond (.t 21) .skip (.exit 0))) (.seq (.block 1 (sR [fD 24 1 1,lD 25 1 24,mV 26 3,oP 27 (.iad 8 (.t 25) (.t 26)),lA 28 8 27,oP 4 (.alloc 46 [i0,i0,i0,i0,s0,.nils,s0,.nils]),nP (.sto 8 (.t 4) (.t 28))] (sR [oP 5 (.mv (.c (.bool false)))] (.seq (sR [oP 6 (.mv (.c i0))] (.block 2 (.loop (.seq (sR [mV 29 6,fD 30 0 1,lD 31 1 30,oP 32 (.len (.t 31)),bN 33 .lss 29 32] (.cond (.t 33) .skip (.exit 2))) (.seq (.block 3 (.drw [0,1,3,7,3,31,63,127,3,259,1023,2047,4095] [(0,mV 36 5),(1,mV 37 36),(2,⟨some 38,some (37,false),.fad 0 (.t 1)⟩),(3,⟨some 39,some (37,false),.ld 1 false (.t 38)⟩),(4,⟨some 40,some (37,false),.mv (.t 6)⟩),(5,⟨some 41,some (37,false),.iad 3 (.t 39) (.t 40)⟩),(6,⟨some 42,some (37,false),.fad 1 (.t 41)⟩),(7,⟨some 43,some (37,false),.ld 2 true (.t 42)⟩),(8,⟨some 44,some (37,false),.fad 0 (.t 4)⟩),(9,⟨some 45,some (37,false),.ld 2 true (.t 44)⟩),(10,⟨some 46,some (37,false),.eqs false [.i,.i] (.t 43) (.t 45)⟩),(11,oP 47 (.pick (.t 37) (.c (.bool true)) (.t 46))),(12,mV 5 47)])) (.reg [mV 34 6,oP 35 (.bin .add (.t 34) (.c (.int .i64 1))),mV 6 35])))))) (.seq (.drw [0,1,3,7,15,31,63,127,255,511,1023,2047,4095,8191,16383,32767,65535,131071,262143,524287,1048575,2097151,4194303,2097151,16777215,2097151,35651583,2097151,136314879,536870911,1073741823,2147483647] [(0,mV 48 5),(1,oP 49 (.un .not (.t 48))),(2,mV 50 49),(3,⟨some 51,some (50,false),.fad 2 (.t 4)⟩),(4,⟨some 52,some (50,false),.ld 2 true (.t 51)⟩),(5,⟨some 53,some (50,false),.call 108 [.t 52]⟩),(6,⟨some 54,some (50,false),.un .not (.t 53)⟩),(7,oP 55 (.pick (.t 50) (.c (.bool true)) (.t 54))),(8,mV 56 55),(9,⟨some 57,some (56,false),.fad 4 (.t 4)⟩),(10,⟨some 58,some (56,false),.ld 2 true (.t 57)⟩),(11,⟨some 59,some (56,false),.call 109 [.t 58]⟩),(12,⟨some 60,some (56,false),.un .not (.t 59)⟩),(13,oP 61 (.pick (.t 56) (.c (.bool true)) (.t 60))),(14,mV 62 61),(15,⟨some 63,some (62,false),.fad 6 (.t 4)⟩),(16,⟨some 64,some (62,false),.ld 2 true (.t 63)⟩),(17,⟨some 65,some (62,false),.call 109 [.t 64]⟩),(18,⟨some 66,some (62,false),.un .not (.t 65)⟩),(19,oP 67 (.pick (.t 62) (.c (.bool true)) (.t 66))),(20,mV 68 67),(21,⟨some 69,some (68,false),.fad 1 (.t 1)⟩),(22,⟨some 70,some (68,false),.ld 1 false (.t 69)⟩),(23,⟨some 71,some (68,false),.mv (.t 3)⟩),(24,⟨some 72,some (68,false),.slv 8 (.t 70) none (some (.t 71))⟩),(25,⟨some 73,some (68,false),.fad 0 (.t 4)⟩),(26,⟨some 74,some (68,false),.ld 2 true (.t 73)⟩),(27,⟨some 75,some (68,false),.fad 2 (.t 4)⟩),(28,⟨some 76,some (68,false),.ld 2 true (.t 75)⟩),(29,⟨some 77,some (68,false),.call 110 [.t 72,.t 74,.t 76]⟩),(30,⟨some 78,some (68,false),.bin .geq (.t 77) (.c i0)⟩),(31,oP 79 (.pick (.t 68) (.c (.bool true)) (.t 78)))]) (.cond (.t 79) (sR [oP 2 (.mv (.c (.bool false)))] .ret) .skip)))))) (.reg [mV 22 3,oP 23 (.bin .add (.t 22) (.c (.int .i64 1))),mV 3 23])))))) (sR [oP 2 (.mv (.c (.bool true)))] .ret)))
theorem dg53:Dg Tryz.prog 53 Tryz.f53 ic53 [(.t 2)]:=⟨Tryz.func53,by kernel_rfl,by kernel_rfl⟩
theorem c53 (d:Door) (h:DB d):FnR Tryz.prog G 53 [.agg [.sl 3 (d.map.map Pair.row),.sl 8 (d.flows.map Flw.row)]] (.bool (doorOk d)):=by
  refine mF dg53 Tryz.ntmps53 ?_
  obtain ⟨h1,h2,h3⟩:=h
  simp only [ic53,go_sem]
  refine callR (c107 d.map h1) rfl rfl ?_
  cases hm:mapOk d.map<;>simp only [go_sem]
  · simp [doorOk,hm]
  obtain ⟨hp,hml⟩:=mapOk_ports hm
  with_reducible repeat' (first|refine br ?_ ?_<;>intro h e<;>(try simp only [e,go_sem])<;>clear e|rw [i64w (by omega)]|refine sd ?_<;>try simp only [go_sem]|fail)
  · have:¬ d.flows.length≤4:=by omega
    simp [doorOk,this]
  refine loopN (fun k:Nat=>⟨getL [(1,.pv 1001 0),(3,.int .i64 (k:Int))],getH [(1001,.var 30 [.sl 3 (d.map.map Pair.row),.sl 8 (d.flows.map Flw.row)])]⟩) (fun k=>d.flows.length - k)
    (fun k=>k≤d.flows.length∧∀ j,j<k→okFlow d j=true) 0 (leQ []) ⟨Nat.zero_le _,by omega⟩ ?_
  intro k ⟨hk,ha⟩
  simp only [go_sem]
  by_cases h:(k:Int)<d.flows.length
  · have hil:k<d.flows.length:=by omega
    have hg:d.flows.getD k default=d.flows[k]:=by simp [List.getD,hil]
    have hok:=okFlow_i hil
    obtain ⟨hs1,hs2⟩:=h3 _ (List.getElem_mem hil)
    have hix:ixI (flowIx (d.flows.take k) d.flows[k].ins d.flows[k].out)<0↔(d.flows.take k).any (sameF d.flows[k].ins d.flows[k].out)=false:=by
      rw [ixI_lt,flowIx_none]
    have hix2:0≤ixI (flowIx (d.flows.take k) d.flows[k].ins d.flows[k].out)↔¬ (d.flows.take k).any (sameF d.flows[k].ins d.flows[k].out)=false:=by
      rw [← hix];omega
    simp only [eq_true h,go_sem]
    with_reducible repeat' (first|refine br ?_ ?_<;>intro h e<;>(try simp only [e,go_sem,hg])<;>clear e|rw [i64w (by omega)]|refine sd ?_<;>try simp only [go_sem,hg]|fail)
    refine loopN (fun i:Nat=>⟨getL [(1,.pv 1001 0),(3,.int .i64 (k:Int)),(4,.pv 1004 0),(5,.bool ((d.map.take i).any fun p=>decide (p.ins=d.flows[k].ins))),(6,.int .i64 (i:Int))],getH [(1001,.var 30 [.sl 3 (d.map.map Pair.row),.sl 8 (d.flows.map Flw.row)]),(1004,.var 46 (Flw.row d.flows[k]))]⟩) (fun i=>d.map.length - i)
      (fun i=>i≤d.map.length) 0 (leQ []) (Nat.zero_le _) ?_
    intro i hi
    simp only [go_sem]
    by_cases h5:(i:Int)<d.map.length
    · have hil5:i<d.map.length:=by omega
      have hg5:d.map.getD i default=d.map[i]:=by simp [List.getD,hil5]
      have hst:((d.map.take (i+1)).any fun q=>decide (q.ins=d.flows[k].ins))=(((d.map.take i).any fun q=>decide (q.ins=d.flows[k].ins)) || decide (d.map[i].ins=d.flows[k].ins)):=by
        rw [List.take_add_one,List.getElem?_eq_getElem hil5]
        simp only [Option.toList_some,List.any_append,List.any_cons,List.any_nil,Bool.or_false]
      simp only [eq_true h5,go_sem]
      cases hh:(d.map.take i).any fun p=>decide (p.ins=d.flows[k].ins)<;>simp only [go_sem]
      all_goals
        with_reducible repeat' (first|refine br ?_ ?_<;>intro h e<;>(try simp only [e,go_sem,hg5,E.ext_iff'])<;>clear e|rw [i64w (by omega)]|refine sd ?_<;>try simp only [go_sem,hg5,E.ext_iff']|fail)
        refine ⟨i+1,by omega,by omega,leN [] ?_ (by simp only [go_sem];first|done|omega|rfl) (by simp [getN]) (by simp only [go_sem])⟩
        simp only [go_sem,hst,hh];first|done|simp
    · simp only [eq_false h5,go_sem]
      have:i=d.map.length:=by omega
      subst this
      rw [List.take_length]
      have st1:=c109 d.flows[k].up hs1
      have st2:=c109 d.flows[k].down hs2
      have fl:=c110 (d.flows.take k) d.flows[k].ins d.flows[k].out (by simp;omega)
      with_reducible repeat' (first|refine br ?_ ?_<;>intro h e<;>(try simp only [e,go_sem,hix2])<;>clear e|rw [i64w (by omega)]|refine sd ?_<;>try simp only [go_sem,hix2]|(first|refine cr (c108 ..) ?_|refine cr (st1 ..) ?_|refine cr (st2 ..) ?_|refine cr (fl ..) ?_)<;>try simp only [go_sem,hix2]|fail)
      all_goals first
        | (have hb:okFlow d k=false:=by rw [hok];simp_all
           rw [doorOk_bad hil hb])
        | skip
      refine ⟨k+1,by omega,⟨by omega,fun j hj=>?_⟩,(leQ [])⟩
      rcases Nat.lt_or_ge j k with hjk|hjk
      · exact ha j hjk
      · obtain rfl:j=k:=by omega
        rw [hok];simp_all
  · simp only [eq_false h,go_sem]
    have:k=d.flows.length:=by omega
    subst this
    rw [doorOk_iff.2 ⟨hm,by omega,ha⟩]
def ic40:IC:=sR [oP 1 (.box 46 (.t 0)),oP 2 (.alloc 46 [i0,i0,i0,i0,s0,.nils,s0,.nils])] (.seq (.drw [0,1,0,4,0,16,48,0,128,496,1023,2047] [(0,fD 3 0 1),(1,lA 4 2 3),(2,fD 5 2 1),(3,lA 6 2 5),(4,fD 7 4 1),(5,lA 8 2 7),(6,oP 9 (.call 86 [.t 8])),(7,fD 10 6 1),(8,lA 11 2 10),(9,oP 12 (.call 86 [.t 11])),(10,oP 13 (.build [i0,i0,i0,i0,s0,.nils,s0,.nils] [(0,(2,.t 4)),(2,(2,.t 6)),(4,(2,.t 9)),(6,(2,.t 12))])),(11,nP (.sto 8 (.t 2) (.t 13)))]) .ret)
theorem dg40:Dg Tryz.prog 40 Tryz.f40 ic40 [(.cell 2 8 true)]:=⟨Tryz.func40,by kernel_rfl,by kernel_rfl⟩
theorem c40 (f:Flw) (h:f.up.parts.length≤2000000∧f.down.parts.length≤2000000):FnR Tryz.prog G 40 [.agg [.int .i64 f.ins.a,.int .i64 f.ins.p,.int .i64 f.out.a,.int .i64 f.out.p,.str f.up.inn,.sl 2 (f.up.parts.map Part.row),.str f.down.inn,.sl 2 (f.down.parts.map Part.row)]]
    (.agg [.int .i64 f.ins.a,.int .i64 f.ins.p,.int .i64 f.out.a,.int .i64 f.out.p,.str f.up.inn,.sl 2 (f.up.parts.map Part.row),.str f.down.inn,.sl 2 (f.down.parts.map Part.row)]):=by
  refine mF dg40 Tryz.ntmps40 ?_
  simp only [ic40,go_sem]
  have c1:=c86 f.up.inn (f.up.parts.map Part.row) (by simp;omega)
  have c2:=c86 f.down.inn (f.down.parts.map Part.row) (by simp;omega)
  with_reducible repeat' (first|refine br ?_ ?_<;>intro h e<;>(try simp only [e,go_sem])<;>clear e|rw [i64w (by omega)]|refine sd ?_<;>try simp only [go_sem]|(first|refine cr (c1 ..) ?_|refine cr (c2 ..) ?_)<;>try simp only [go_sem]|fail)
def ic76:IC:=sR [oP 1 (.box 30 (.t 0)),oP 2 (.alloc 30 [.nils,.nils])] (.seq (.drw [0,1,3,0,8,24,56,127,0,511] [(0,fD 6 0 1),(1,lD 7 1 6),(2,oP 8 (.call 126 [.t 7])),(3,fD 9 1 1),(4,lD 10 1 9),(5,oP 11 (.len (.t 10))),(6,oP 12 (.mks 46 8 (.t 11))),(7,oP 13 (.build [.nils,.nils] [(0,(1,.t 8)),(1,(1,.t 12))])),(8,oP 3 (.alloc 30 [.nils,.nils])),(9,nP (.sto 2 (.t 3) (.t 13)))]) (.seq (sR [fD 14 1 1,lD 15 1 14,oP 16 (.len (.t 15)),oP 17 (.mv (.c i0))] (.block 0 (.loop (sR [bN 18 .lss 17 16] (.seq (.cond (.t 18) .skip (.exit 0)) (.seq (.block 1 (sR [oP 19 (.iad 8 (.t 15) (.t 17)),lA 20 8 19,oP 5 (.alloc 46 [i0,i0,i0,i0,s0,.nils,s0,.nils]),nP (.sto 8 (.t 5) (.t 20))] (.drw [0,1,0,4,12,31,63,127] [(0,fD 21 1 3),(1,lD 22 1 21),(2,lA 23 8 5),(3,oP 24 (.call 40 [.t 23])),(4,oP 25 (.bsl 46 8 [.t 24])),(5,oP 26 (.app 46 8 (.t 22) (.t 25))),(6,fD 27 1 3),(7,nP (.sto 1 (.t 27) (.t 26)))]))) (.reg [oP 28 (.bin .add (.t 17) (.c (.int .i64 1))),mV 17 28]))))))) (sR [lA 29 2 3,nP (.sto 2 (.t 2) (.t 29))] .ret)))
theorem dg76:Dg Tryz.prog 76 Tryz.f76 ic76 [(.cell 2 2 true)]:=⟨Tryz.func76,by kernel_rfl,by kernel_rfl⟩
theorem c76 (rows:List (List V)) (fs:List Flw) (hr:rows.length≤2000000) (hf:fs.length≤1000000) (h:∀ f∈fs,f.up.parts.length≤2000000∧f.down.parts.length≤2000000) :
    FnP Tryz.prog G 76 0 [] [.agg [.sl 3 rows,.sl 8 (fs.map Flw.row)]] (fun r o=>r=.agg [.own 0 rows.length,.own 1 fs.length]∧o=[.arr 64 3 rows,.arr 46 8 (fs.map Flw.row)]):=by
  refine mP dg76 Tryz.ntmps76 ⟨_,_,rfl,rfl⟩ ?_
  simp only [ic76,go_sem]
  with_reducible repeat' (first|refine br ?_ ?_<;>intro h e<;>(try simp only [e,go_sem])<;>clear e|rw [i64w (by omega)]|refine sd ?_<;>try simp only [go_sem]|fail)
  refine callO (c126 rows hr) [] 8 1 (by simp only [go_sem];first|done|simp) (by simp) (by rintro _ _ ⟨rfl,rfl⟩;simp) (by intro i hi;obtain rfl:i=0:=(by omega);simp only [go_sem]) ?_
  rintro _ _ ⟨rfl,rfl⟩
  simp only [go_sem]
  with_reducible repeat' (first|refine br ?_ ?_<;>intro h e<;>(try simp only [e,go_sem])<;>clear e|rw [i64w (by omega)]|refine sd ?_<;>try simp only [go_sem]|fail)
  refine loopN (fun k:Nat=>⟨getL [(2,.pv 1002 0),(3,.pv 1003 0),(15,.sl 8 (fs.map Flw.row)),(16,.int .i64 fs.length),(17,.int .i64 (k:Int))],getH [(1002,.var 30 [.nils,.nils]),(1003,.var 30 [.own 100800 rows.length,.own 1012 k]),(100800,.arr 64 3 rows),(1012,.arr 46 8 ((fs.take k).map Flw.row))]⟩) (fun k=>fs.length - k)
    (fun k=>k≤fs.length) 0 (leQ []) (Nat.zero_le _) ?_
  intro k hk
  simp only [go_sem]
  by_cases h5:(k:Int)<fs.length
  · have hil:k<fs.length:=by omega
    have hg:fs.getD k default=fs[k]:=by simp [List.getD,hil]
    have hlen:(fs.take k).length=k:=by simp;omega
    have c1:=c40 fs[k] (h _ (List.getElem_mem hil))
    simp only [eq_true h5,go_sem]
    with_reducible repeat' (first|refine br ?_ ?_<;>intro h e<;>(try simp only [e,go_sem,hg,hlen])<;>clear e|rw [i64w (by omega)]|refine sd ?_<;>try simp only [go_sem,hg,hlen]|(first|refine cr (c1 ..) ?_)<;>try simp only [go_sem,hg,hlen]|fail)
    refine ⟨k+1,by omega,by omega,leN [(1012,1026)] ?_ ?_ (by simp [getN]) (by simp only [go_sem])⟩
    · simp only [go_sem];first|done|omega
    · simp only [go_sem];rw [List.take_add_one,List.getElem?_eq_getElem hil];simp only [Option.toList_some,List.map_append,List.map_cons,List.map_nil,Flw.row]
  · simp only [eq_false h5,go_sem]
    have:k=fs.length:=by omega
    subst this
    rw [List.take_length]
    with_reducible repeat' (first|refine br ?_ ?_<;>intro h e<;>(try simp only [e,go_sem])<;>clear e|rw [i64w (by omega)]|refine sd ?_<;>try simp only [go_sem]|fail)
    refine retN (.agg [.own 0 rows.length,.own 1 fs.length]) [.arr 64 3 rows,.arr 46 8 (fs.map Flw.row)] [(0,100800),(1,1012)] ?_ ⟨rfl,rfl⟩ ?_ (by simp [argH,getN]) (by simp only [go_sem])
    · simp only [go_sem]
    · simp only [go_sem]
def ic103:IC:=sR [oP 1 (.box 30 (.t 0)),oP 2 (.alloc 30 [.nils,.nils])] (sR [fD 6 0 1,lD 7 1 6,oP 8 (.call 149 [.t 7]),oP 9 (.bsl 46 8 []),oP 10 (.build [.nils,.nils] [(0,(1,.t 8)),(1,(1,.t 9))]),oP 3 (.alloc 30 [.nils,.nils]),nP (.sto 2 (.t 3) (.t 10))] (.seq (sR [oP 4 (.mv (.c i0))] (.block 0 (.loop (.seq (sR [mV 11 4,fD 12 1 1,lD 13 1 12,oP 14 (.len (.t 13)),bN 15 .lss 11 14] (.cond (.t 15) .skip (.exit 0))) (.seq (.block 1 (sR [fD 18 1 1,lD 19 1 18,mV 20 4,oP 21 (.iad 8 (.t 19) (.t 20)),lA 22 8 21,oP 5 (.alloc 46 [i0,i0,i0,i0,s0,.nils,s0,.nils]),nP (.sto 8 (.t 5) (.t 22))] (sR [fD 23 4 5,lA 24 2 23,oP 25 (.call 150 [.t 24]),fD 26 4 5,nP (.sto 2 (.t 26) (.t 25))] (sR [fD 27 6 5,lA 28 2 27,oP 29 (.call 150 [.t 28]),fD 30 6 5,nP (.sto 2 (.t 30) (.t 29))] (.reg [fD 31 1 3,lD 32 1 31,lA 33 8 5,oP 34 (.bsl 46 8 [.t 33]),oP 35 (.app 46 8 (.t 32) (.t 34)),fD 36 1 3,nP (.sto 1 (.t 36) (.t 35))]))))) (.reg [mV 16 4,oP 17 (.bin .add (.t 16) (.c (.int .i64 1))),mV 4 17])))))) (sR [lA 37 2 3,nP (.sto 2 (.t 2) (.t 37))] .ret)))
theorem dg103:Dg Tryz.prog 103 Tryz.f103 ic103 [(.cell 2 2 true)]:=⟨Tryz.func103,by kernel_rfl,by kernel_rfl⟩
theorem c103 (rows:List (List V)) (fs:List Flw) (hr:rows.length≤2000000) (hf:fs.length≤1000000) (h:∀ f∈fs,f.up.parts.length≤2000000∧f.down.parts.length≤2000000) :
    FnP Tryz.prog G 103 0 [] [.agg [.sl 3 rows,.sl 8 (fs.map Flw.row)]] (fun r o=>r=.agg [.own 0 rows.length,.own 1 fs.length]∧o=[.arr 64 3 rows,.arr 46 8 (fs.map Flw.row)]):=by
  refine mP dg103 Tryz.ntmps103 ⟨_,_,rfl,rfl⟩ ?_
  simp only [ic103,go_sem]
  with_reducible repeat' (first|refine br ?_ ?_<;>intro h e<;>(try simp only [e,go_sem])<;>clear e|rw [i64w (by omega)]|refine sd ?_<;>try simp only [go_sem]|fail)
  refine callO (c149 rows hr) [] 8 1 (by simp only [go_sem];first|done|simp) (by simp) (by rintro _ _ ⟨rfl,rfl⟩;simp) (by intro i hi;obtain rfl:i=0:=(by omega);simp only [go_sem]) ?_
  rintro _ _ ⟨rfl,rfl⟩
  simp only [go_sem]
  with_reducible repeat' (first|refine br ?_ ?_<;>intro h e<;>(try simp only [e,go_sem])<;>clear e|rw [i64w (by omega)]|refine sd ?_<;>try simp only [go_sem]|fail)
  refine loopN (fun k:Nat=>⟨getL [(1,.pv 1001 0),(2,.pv 1002 0),(3,.pv 1003 0),(4,.int .i64 (k:Int))],getH [(1001,.var 30 [.sl 3 rows,.sl 8 (fs.map Flw.row)]),(1002,.var 30 [.nils,.nils]),(1003,.var 30 [.own 100800 rows.length,.own 1009 k]),(100800,.arr 64 3 rows),(1009,.arr 46 8 ((fs.take k).map Flw.row))]⟩) (fun k=>fs.length - k)
    (fun k=>k≤fs.length) 0 (leQ []) (Nat.zero_le _) ?_
  intro k hk
  simp only [go_sem]
  by_cases h5:(k:Int)<fs.length
  · have hil:k<fs.length:=by omega
    have hg:fs.getD k default=fs[k]:=by simp [List.getD,hil]
    have hlen:(fs.take k).length=k:=by simp;omega
    have hb:=h _ (List.getElem_mem hil)
    have c1:=c150 fs[k].up.inn (fs[k].up.parts.map Part.row) (by simp;omega)
    have c2:=c150 fs[k].down.inn (fs[k].down.parts.map Part.row) (by simp;omega)
    simp only [eq_true h5,go_sem]
    with_reducible repeat' (first|refine br ?_ ?_<;>intro h e<;>(try simp only [e,go_sem,hg,hlen])<;>clear e|rw [i64w (by omega)]|refine sd ?_<;>try simp only [go_sem,hg,hlen]|(first|refine cr (c1 ..) ?_|refine cr (c2 ..) ?_)<;>try simp only [go_sem,hg,hlen]|fail)
    refine ⟨k+1,by omega,by omega,leN [(1009,1035)] ?_ ?_ (by simp [getN]) (by simp only [go_sem])⟩
    · simp only [go_sem];first|done|omega
    · simp only [go_sem];rw [List.take_add_one,List.getElem?_eq_getElem hil];simp only [Option.toList_some,List.map_append,List.map_cons,List.map_nil,Flw.row]
  · simp only [eq_false h5,go_sem]
    have:k=fs.length:=by omega
    subst this
    rw [List.take_length]
    with_reducible repeat' (first|refine br ?_ ?_<;>intro h e<;>(try simp only [e,go_sem])<;>clear e|rw [i64w (by omega)]|refine sd ?_<;>try simp only [go_sem]|fail)
    refine retN (.agg [.own 0 rows.length,.own 1 fs.length]) [.arr 64 3 rows,.arr 46 8 (fs.map Flw.row)] [(0,100800),(1,1009)] ?_ ⟨rfl,rfl⟩ ?_ (by simp [argH,getN]) (by simp only [go_sem])
    · simp only [go_sem]
    · simp only [go_sem]
end Go.Proofs.YtggifndkolojmaaGreatDoor.W
namespace Go.Proofs.YtggifndkolojmaaGreatDoor.W
open Go Go.RowKit Go.Proofs Go.Proofs.YtggifndkolojmaaGreatDoor.VL
def bldRen:Go.Shelf.Ren:=⟨fun|166=>89|240=>136|276=>167|n=>n,fun|0=>0|3=>3|4=>4|9=>9|20=>20|37=>22|70=>129|72=>131|75=>133|164=>188|5=>5|80=>82|n=>n,fun|n=>n⟩
theorem bldLays:Go.Proofs.Lays.n166 Tryz.prog bldRen:={
  mixed:=by kernel_rfl
  f166:=Tryz.func89.trans (congrArg some (by kernel_rfl))
  f240:=Tryz.func136.trans (congrArg some (by kernel_rfl))
  f276:=Tryz.func167.trans (congrArg some (by kernel_rfl))
  t0:=Tryz.underlying0
  a0:=Tryz.isAgg0
  z0:=Tryz.sizeOf0
  v0:=Tryz.zeroValue0
  t3:=Tryz.underlying3
  a3:=Tryz.isAgg3
  z3:=Tryz.sizeOf3
  v3:=Tryz.zeroValue3
  t4:=Tryz.underlying4
  a4:=Tryz.isAgg4
  z4:=Tryz.sizeOf4
  v4:=Tryz.zeroValue4
  t9:=Tryz.underlying9
  a9:=Tryz.isAgg9
  z9:=Tryz.sizeOf9
  v9:=Tryz.zeroValue9
  t20:=Tryz.underlying20
  a20:=Tryz.isAgg20
  z20:=Tryz.sizeOf20
  v20:=Tryz.zeroValue20
  t37:=Tryz.underlying22
  a37:=Tryz.isAgg22
  z37:=Tryz.sizeOf22
  v37:=Tryz.zeroValue22
  t70:=Tryz.underlying129
  a70:=Tryz.isAgg129
  z70:=Tryz.sizeOf129
  v70:=Tryz.zeroValue129
  t72:=Tryz.underlying131
  a72:=Tryz.isAgg131
  z72:=Tryz.sizeOf131
  v72:=Tryz.zeroValue131
  t75:=Tryz.underlying133
  a75:=Tryz.isAgg133
  z75:=Tryz.sizeOf133
  v75:=Tryz.zeroValue133
  t164:=Tryz.underlying188
  a164:=Tryz.isAgg188
  z164:=Tryz.sizeOf188
  v164:=Tryz.zeroValue188 }
theorem bldExtra:Builder.Extra Tryz.prog bldRen:={
  sizeBuilder:=by kernel_rfl
  liesBuilder:=by kernel_rfl
  t5:=Tryz.underlying5
  a5:=Tryz.isAgg5
  z5:=Tryz.sizeOf5
  v5:=Tryz.zeroValue5
  infoByte:=by kernel_rfl
  cellsByte:=by kernel_rfl
  sizeByte:=by kernel_rfl
  neB5:=by decide }
theorem m89 (B b:Nat) (bs:List Value) (s:ByteArray) (w:World) (h:Lib.IsBuilder 131 5 B b bs w) (hlen:bs.length+s.size≤140737488355328) (hBw:B≤w.heap.size) :
    Calls Tryz.prog 89 #[.pointer (some ⟨b,0,none⟩),.string s] w fun e w'=>e=.returned (.tuple #[.int .i64 s.size,.nilIface])∧(Lib.BuilderAt 131 5 B b (.pointer (some ⟨b,0,none⟩)) (bs++Lib.strCells s) w'∧Below B w w') :=
  Any.Builder_WriteString bldLays bldExtra B b bs s w h hlen hBw
theorem builder_stays {T e:TypeId} {B b:Nat} {bs:List Value} {w w':World} (h:Lib.IsBuilder T e B b bs w) (hb:Below w.heap.size w w'):Lib.IsBuilder T e B b bs w':=by
  have hg:w.grownBy w' none:=⟨hb.os,hb.tape,hb.output,hb.size,fun k hk _=>hb.block k hk⟩
  have key:∀ p,Lib.BuilderAt T e B b p bs w→Lib.BuilderAt T e B b p bs w':=fun p h=>by
    have hlt:=h.lt
    obtain ⟨hB,v,h1,h2,h3⟩:=h
    refine ⟨hB,v,(hb.block b hlt).trans h1,h2.kept hg ?_,h3⟩
    cases v.ownBlock with
    | none=>exact .inl rfl
    | some k=>exact .inr (by simp)
  exact h.imp (key _) (key _)
theorem hid {p:Prop} (h:p):Hid p:=h
set_option maxHeartbeats 2000000
set_option maxRecDepth 100000
theorem m42 (inn:ByteArray) (A:Option Addr) (n cap:Nat) (bk o:Nat) (hA:0<n→A=some ⟨bk,o,none⟩) (tx:List (List UInt8)) (w:World) (hn:tx.length=n) (hn2:n≤1000) (hbk:0<n→bk<w.heap.size) (hcap:n≤cap)
    (hc:∀ (i:Nat) x,tx[i]?=some x→∃ z:Int,w.cell? ⟨bk,o+(i * 2+0),none⟩=some (.int .i64 z)∧w.cell? ⟨bk,o+(i * 2+1),none⟩=some (.string ⟨x.toArray⟩)) (hlen:∀ x,x∈tx→x.length≤1000) :
    Calls Tryz.prog 42 #[.agg #[.string inn,.slice A n cap]] w fun e w'=>e=.returned (.string ⟨tx.flatten.toArray⟩)∧Below w.heap.size w w':=by
  have e61:∀ args w,(callFunc 89 args).run Tryz.prog w=.ok (.enter 89 args) w:=enters_of Tryz.func89 (by kernel_rfl) rfl
  have e64:∀ args w,(callFunc 90 args).run Tryz.prog w=.ok (.enter 90 args) w:=enters_of Tryz.func90 (by kernel_rfl) rfl
  have HA:=hid hA
  have Hc:=hid hc
  have Hl:=hid hlen
  have Hn:=hid hn
  clear hA hc hlen hn
  go_enter Tryz.func42,Tryz.ntmps42
  go_wp2_with fail
  go_loopw [9] (fun i wr=>∃ k:Nat,k≤n∧i=.int .i64 k∧Hid (Lib.IsBuilder 131 5 w.heap.size (w.heap.size+1) (Lib.byteCells (tx.take k).flatten) wr)∧Hid (Below w.heap.size w wr)) (fun i _=>n - (intOf i).toNat)
  case atStart =>
    refine ⟨0,Nat.zero_le _,rfl, ?_, ?_⟩
    · refine .inl ⟨Nat.le_succ _,.slice none 0 0, ?_,World.ownsRow_nil _ _ _ _,by simp [Value.ownBlock]⟩
      have:=heap_alloc_new (w.alloc (Obj.cells #[Value.string inn,Value.slice A n cap] 44)) (Obj.cells #[Value.pointer none,Value.slice none 0 0] 131)
      simpa using this
    · exact ((Below.refl w.heap.size w).alloc (Nat.le_refl _) _).alloc (by simp) _
  case round =>
    obtain ⟨k,hk,rfl,HB,HW⟩:=hrel
    have hBw:w.heap.size≤wr.heap.size:=HW.out.size
    by_cases hkn:k<n
    · obtain ⟨x,hx⟩:∃ x,tx[k]?=some x:=⟨tx[k]'(by have:=Hn.out;omega),List.getElem?_eq_getElem _⟩
      obtain rfl:=HA.out (by omega)
      obtain ⟨z,hc0,hc1⟩:=Hc.out k x hx
      have hbk':bk<w.heap.size:=hbk (by omega)
      have hd0:wr.cell? ⟨bk,o+k * 2,none⟩=some (.int .i64 z):=by
        rw [HW.out.cell (p:=⟨bk,o+k * 2,none⟩) hbk']
        exact hc0
      have hd1:wr.cell? ⟨bk,o+k * 2+1,none⟩=some (.string ⟨x.toArray⟩):=by
        rw [HW.out.cell (p:=⟨bk,o+k * 2+1,none⟩) hbk']
        exact hc1
      have Hx:=hid hx
      clear hc0 hc1 hx
      have hxl:=Hl.out x (List.mem_of_getElem? Hx.out)
      have hfl:∀ (l:List (List UInt8)) (m:Nat),(∀ y,y∈l→y.length≤1000)→l.length≤m→l.flatten.length≤m * 1000:=by
        intro l
        induction l with
        | nil=>intro m _ _;simp
        | cons a l ih =>
          intro m h1 h2
          obtain ⟨m,rfl⟩:∃ q,m=q+1:=⟨m - 1,by simp at h2;omega⟩
          have:=ih m (fun y hy=>h1 y (List.mem_cons_of_mem _ hy)) (by simpa using h2)
          have:=h1 a List.mem_cons_self
          simp only [List.flatten_cons,List.length_append]
          omega
      have hl1:=hfl (tx.take k) 1000 (fun y hy=>Hl.out y (List.mem_of_mem_take hy)) (by simp;omega)
      have hnext:Lib.byteCells (tx.take k).flatten++Lib.strCells ⟨x.toArray⟩=Lib.byteCells (tx.take (k+1)).flatten:=by
        rw [List.take_add_one,Hx.out]
        simp [Lib.strCells_eq,Lib.byteCells_append]
      have Hn':=hid hnext
      have Hl1:=hid hl1
      have Hxl:=hid hxl
      clear hnext hl1 hxl hfl
      go_wp2_with fail
      have hbel:Below wr.heap.size wr (wr.alloc (Obj.cells #[Value.int IntKind.i64 z,Value.string { data:=x.toArray }] 125)):=(Below.refl _ _).alloc (Nat.le_refl _) _
      refine (m89 w.heap.size (w.heap.size+1) _ ⟨x.toArray⟩ _ (builder_stays HB.out hbel) ?hl (Nat.le_trans hBw hbel.size)).mono ?_
      case hl =>
        have h1:=Hl1.out
        have h2:=Hxl.out
        rw [Lib.byteCells_length]
        simp only [ByteArray.size,List.size_toArray]
        omega
      rintro e w3 ⟨rfl,h3,hb3⟩
      rw [Hn'.out] at h3
      have H3:=hid (Or.inr h3:Lib.IsBuilder 131 5 w.heap.size (w.heap.size+1) _ w3)
      have Hb3:=hid ((HW.out.trans (hbel.mono hBw)).trans hb3)
      clear h3 hb3 hbel
      go_wp2
      exact ⟨⟨k+1,by omega,by go_num,H3,Hb3⟩,by simp [intOf];omega⟩
    · obtain rfl:k=n:=by omega
      have hB':=HB.out
      rw [List.take_of_length_le (by rw [Hn.out];omega)] at hB'
      go_wp2_with fail
      refine (Tryz.Builder_String_any w.heap.size (w.heap.size+1) _ wr hB' hBw).mono ?_
      rintro e w5 ⟨rfl,hb5⟩
      have Hb5:=hid (HW.out.trans hb5)
      clear hb5 hB'
      go_wp2
      go_ret
      exact ⟨rfl,Hb5.out⟩
theorem e42:entr Tryz.prog 42=true:=by kernel_rfl
theorem c42 (s:M.Strm) (h:M.StrB s):FnR Tryz.prog G 42 [.agg [.str s.inn,.sl 2 (s.parts.map M.Part.row)]] (.str (M.sOut s)) where
  en:=e42
  ne:=⟨_,_,rfl,rfl⟩
  run:=fun W ρ ext us hg hlt hno hng r hargs=>by
    obtain ⟨u,rfl,hd⟩:=us_one hargs
    obtain ⟨fs,rfl,hfl,hf⟩:=hd
    have hc:chH []=fun _=>.fresh:=by funext x;simp [chH]
    have fin:∀ e (W':World),e=Ending.returned (.string (mkStr (M.sOut s)))→Below W.heap.size W W'→∃ u res out ρ',e=.returned u∧(res=V.str (M.sOut s)∧out=[])∧RelH ⟨W,blocks ρ (chH []),ext,0,ρ⟩ ρ' (chH out) W' ∧
        Den W' (owns ⟨W,blocks ρ (chH []),ext,0,ρ⟩ ρ' (chH out)) ρ' (chH out) res u:=fun e W' he hb=>by
      refine ⟨_,_,[],fun _=>default,he,⟨rfl,rfl⟩,⟨hb.os,hb.tape,hb.output,hb.size,fun b hb1 _=>hb.block b hb1,fun c=>(by rw [hc];trivial),fun c hl=>(by rw [hc] at hl;cases hl),fun c c' hl=>(by rw [hc] at hl;cases hl),fun i hi=>absurd hi (Nat.not_lt_zero _)⟩,Imm.str _⟩
    match fs,hfl with
    | [a,b],_ =>
      have ha:a=.string (mkStr s.inn):=inv_str (hf 0 _ _ rfl rfl)
      subst ha
      have hb:Imm W _ (.sl 2 (s.parts.map M.Part.row)) b:=hf 1 _ _ rfl rfl
      have hout:(s.parts.map fun p=>p.text).flatten=M.sOut s:=by simp [M.sOut,List.flatMap]
      have key:∀ (A:Option Addr) (cap bk o:Nat),b=.slice A s.parts.length cap→s.parts.length≤cap→(0<s.parts.length→A=some ⟨bk,o,none⟩)→(0<s.parts.length→bk<W.heap.size) →
          (∀ (i:Nat) x,(s.parts.map fun p=>p.text)[i]?=some x→∃ z:Int,W.cell? ⟨bk,o+(i * 2+0),none⟩=some (.int .i64 z)∧W.cell? ⟨bk,o+(i * 2+1),none⟩=some (.string ⟨x.toArray⟩)) →
          Calls Tryz.prog 42 #[.agg #[.string (mkStr s.inn),b]] W fun e W'=>∃ u res out ρ',e=.returned u∧(res=V.str (M.sOut s)∧out=[])∧RelH ⟨W,blocks ρ (chH []),ext,0,ρ⟩ ρ' (chH out) W' ∧
            Den W' (owns ⟨W,blocks ρ (chH []),ext,0,ρ⟩ ρ' (chH out)) ρ' (chH out) res u:=fun A cap bk o hb hcap hA hbk hcells=>by
        subst hb
        refine (m42 (mkStr s.inn) A s.parts.length cap bk o hA (s.parts.map fun p=>p.text) W (by simp) (by have:=h.2.1;omega) hbk hcap hcells (fun x hx=>?_)).mono fun e W' ⟨he,hb⟩=>fin e W' (by rw [he,hout];rfl) hb
        obtain ⟨p,hp,rfl⟩:=List.mem_map.1 hx
        have:=h.2.2 p hp
        omega
      generalize hR:s.parts.map M.Part.row=R at hb
      have hRl:R.length=s.parts.length:=by rw [← hR];simp
      cases hb with
      | esl _ A cap =>
        have hz:s.parts.length=0:=by rw [← hRl];rfl
        refine key A cap 0 0 (by rw [hz]) (by omega) (fun h=>by omega) (fun h=>by omega) fun i x hx=>?_
        have:=(List.getElem?_eq_some_iff.1 hx).1
        simp at this
        omega
      | sl _ _ blk off cap cs h1 h2 h3 h4 h5 h6 h7 =>
        refine key _ cap blk off (by rw [← hRl]) (by omega) (fun _=>rfl) (fun _=>h2) fun i x hx=>?_
        obtain ⟨p,hp,rfl⟩:∃ p,s.parts[i]?=some p∧p.text=x:=by simpa using hx
        have hr:R[i]?=some (M.Part.row p):=by rw [← hR];simp [hp]
        have a0:=h6 i _ 0 _ hr rfl
        have a1:=h6 i _ 1 _ hr rfl
        have b0:=inv_int (h7 i _ 0 _ hr rfl)
        have b1:=inv_str (h7 i _ 1 _ hr rfl)
        rw [b0] at a0
        rw [b1] at a1
        exact ⟨_,a0,a1⟩
end Go.Proofs.YtggifndkolojmaaGreatDoor.W
namespace Go.Proofs.YtggifndkolojmaaGreatDoor.W
open Go Go.RowKit Go.Proofs Go.Proofs.YtggifndkolojmaaGreatDoor.VL Go.Proofs.YtggifndkolojmaaGreatDoor.M
attribute [local congr] optK_congr guardK_congr condK_congr runT_congr runD_congr wpI_congr CallV_congr LoopI_congr pureK_congr effK_congr calK_congr stepV_congr doV_congr exN_congr exB_congr retF_congr retQ_congr gK_congr condW_congr ldK_congr stoK_congr
attribute [local go_sem] argL_cons argL_nil argH_nil argH_cons chH_getH wpI_seq wpI_reg wpI_drw wpI_ret cond_k condW_t condW_f wpI_skip wpI_block wpI_exit wpI_loop exN_n exN_r exN_e exB_n exB_r exB_h exB_m runT_k kT_e runT_nil runD_k kD_e runD_nil step_u step_k gK_t gK_f do_mv do_bino bo_add bo_sub bo_mul bo_subu bo_quo bo_rem bo_xor bo_eql bo_neq bo_lss bo_leq bo_gtr bo_geq bo_cat bo_eqs bo_nes do_pick do_call do_cal calK_f do_box do_alloc do_ldk ldK_s do_stok stoK_s do_fad do_nilc do_not do_neg do_len do_lens do_ext do_eqs do_beq do_isn do_cvi do_sls do_idx do_mn do_mx do_build do_mkf do_s2b do_b2s do_slv do_iad do_bsl do_mks do_app ev_t ev_c app_some app_none
attribute [local go_sem] List.nil_append List.cons_append List.append_nil getL_hit getL_miss getH_nil getH_hit getH_miss nm_eq ne_eq Nat.reduceEqDiff not_false_eq_true Nat.reduceAdd Nat.add_zero Nat.zero_add if_true if_false ite_true ite_false pureK_s effK_s optK_s gdV_t gdV_f gdV_s pick_b ge_iff_le gt_iff_lt cond_true cond_false fresh_k cells_agg cells_int cells_bool cells_str cells_own cells_sl cells_nils ld_pv ld_pa ld_ip ldVar_t ldVar_f ldArr_t ldArr_f ldRow_t ldRow_f ldA_s ld1_s fad_pv fad_pa fad_ip nilc_pv nilc_pa nilc_ip not_b neg_i cvi_i ext_t retF_n retF_r
attribute [local go_sem] resV_k rvs_nil rvs_t rvs_c fstO_s consO_s resK_s resL_1 resL_2 resL_3 resL_4  Option.some.injEq List.map_cons List.map_nil List.all_cons List.all_nil Bool.and_true Bool.and_self Bool.not_true Bool.not_false Option.map_some Option.map_none sls_s slsG_s loV_n loV_i hiV_n hiV_i idx_s mn_i mx_i s2b_s b2s_s bytO_s bytes_nil bytes_cons conB_s slv_sl slv_own slv_nils slvG_s slvN_s slvO_s iad_sl iadG_map take_map drop_map List.length_map iad_own iad_view iadO_a iadW_a mks_i rowO_nils rowO_sl rowO_own rowA_a eq_self appG_nils appG_own appO_a guardP_T mapA_s bld_nil mkf_nil bldF_e fill_nil fill_cons mkf_e lens_s len_nils len_sl len_own len_view isn_nile isn_erre List.getElem?_cons_zero List.getElem?_cons_succ List.length_cons List.length_nil decide_true decide_false Int.toNat_natCast Int.cast_ofNat_Int Int.reduceLT Int.reduceLE Int.reduceEq Int.reduceAdd Int.reduceSub Int.reduceMul Int.reduceNeg Int.reduceToNat List.getD_cons_zero List.getD_cons_succ not_true_eq_false not_false_eq_true Bool.false_eq_true Bool.true_eq_false reduceCtorEq
attribute [local go_sem] E.row Pc.row Pair.row Part.row Strm.row Flw.row Pk.row Door.row Conv.row World.row Ev.row rdV E.eta Pc.eta Pair.eta Part.eta Strm.eta Pk.eta Flw.eta Conv.eta Door.eta World.eta Ev.eta
attribute [local go_sem] sub_ok st_pv st_pa stVar_v stArr_a Nat.le_refl List.drop_zero List.drop_succ_cons List.take_succ_cons List.take_zero setR Nat.reduceLeDiff
attribute [local go_sem] wk_bot wk2_bot wk1_bot wk_undef wk_tup_e wk2_agg_e wk_agg_e wk1_fn_e wk2_fn_e wk_fn_e wkl_nil wkl_cons wkh_var_e wkh_arr_e wkh_fresh_e wkh_dead_v wkh_dead_a wkh_dead_d wk0_undef wk0_int wk0_bool wk0_str wk0_nils wk0_nils_sl wk0_nilp wk0_nile wk0_erre wk0_sl wk0_iptr wk0_own wk0_view wk0_pv wk0_pa fzA_a fzW_a fzP_v wk0_own_sl wk0_view_sl wk0_pv_iptr WkS_nil WkS_cons WkN_nil WkN_cons nonB_nil nonB_cons getN_nil getN_hit getN_miss pinOk_0 pinOk_s and_true true_and and_self
attribute [local go_sem] bot_int one_int unt_int clo_int bot_bool one_bool unt_bool clo_bool bot_str one_str unt_str clo_str bot_nils one_nils unt_nils clo_nils bot_nilp one_nilp unt_nilp clo_nilp bot_nile one_nile unt_nile clo_nile bot_erre one_erre unt_erre clo_erre bot_raw one_raw unt_raw clo_raw bot_sl one_sl unt_sl clo_sl bot_own one_own unt_own clo_own bot_view one_view unt_view clo_view bot_pv one_pv unt_pv clo_pv bot_pa one_pa unt_pa clo_pa bot_iptr one_iptr unt_iptr clo_iptr unt_agg unt_fn one_fn
attribute [local go_sem] rn_tup rn_agg rn2_agg rn_fn rn2_fn rnfn1 rn_bot rn2_bot rn1_bot rn0_int rn0_bool rn0_str rn0_nils rn0_nilp rn0_nile rn0_erre rn0_sl rn0_iptr rn0_own rn0_view rn0_pv rn0_pa hrn_var hrn_arr hrn_dead outU_nil outU_cons deads_nil deads_cons bk_ge bk_lt nsF_0 nsF_s chH_0 chH_s chH_n newN_e andB_s eqR_nil eqR_i eqR_b eqR_s mapX_f mapX_t eqs_a beq_f beq_t live_arr live_var nsl_nil nsl_cons Nat.reduceMul Nat.reduceLT Nat.zero_le Nat.not_lt_zero
attribute [local go_sem] mV lD lA fD bN eX oP nP sR i0 s0
structure PutOk (m:List Pair) (s:Strm) (n:Int) (t:B):Prop where
  m:mapOk m=true
  s:strmOk s=true
  n:0≤n∧n≤999
  t:t.length≤40
def ic188:IC:=sR [oP 5 (.box 44 (.t 0)),oP 10 (.mv (.c .nils)),oP 11 (.alloc 44 [s0,.nils]),oP 12 (.mv (.c (.bool false)))] (sR [fD 24 0 5,lD 25 1 24,mV 26 2,mV 27 3,oP 28 (.call 161 [.t 25,.t 26,.t 27]),mV 23 28,eX 29 23 0,eX 30 23 1,mV 13 29,mV 14 30] (.seq (sR [mV 31 14,oP 32 (.un .not (.t 31))] (.cond (.t 32) (.seq (.drw [0,0,1,7,15] [(0,mV 33 1),(1,lA 34 2 5),(2,mV 10 33),(3,nP (.sto 2 (.t 11) (.t 34))),(4,oP 12 (.mv (.c (.bool false))))]) .ret) .skip)) (.seq (.drw [0,1,0,4,12,31,63] [(0,mV 35 13),(1,oP 36 (.call 46 [.t 35])),(2,fD 37 1 5),(3,lD 38 1 37),(4,oP 39 (.len (.t 38))),(5,oP 40 (.slv 4 (.t 36) (some (.t 39)) none)),(6,mV 15 40)]) (sR [oP 16 (.mv (.c i0))] (.seq (sR [fD 41 1 5,lD 42 1 41,oP 43 (.len (.t 42)),oP 44 (.mv (.c i0))] (.block 0 (.loop (sR [bN 45 .lss 44 43] (.seq (.cond (.t 45) .skip (.exit 0)) (.seq (.block 1 (sR [oP 46 (.iad 2 (.t 42) (.t 44)),lA 47 2 46,oP 18 (.alloc 125 [i0,s0]),nP (.sto 2 (.t 18) (.t 47))] (.reg [mV 48 16,fD 49 0 18,lD 50 1 49,bN 51 .add 48 50,mV 16 51]))) (.reg [oP 52 (.bin .add (.t 44) (.c (.int .i64 1))),mV 44 52]))))))) (sR [mV 54 1,mV 55 15,mV 56 13,mV 57 16,oP 58 (.sls (.t 56) (some (.t 57)) none),mV 59 4,oP 60 (.call 45 [.t 54,.t 55,.t 58,.t 59]),mV 53 60,eX 61 53 0,eX 62 53 1,mV 19 61,mV 20 62] (sR [mV 63 13,fD 64 1 5,lD 65 1 64,oP 66 (.call 135 [.t 65]),oP 67 (.build [s0,.nils] [(0,(1,.t 63)),(1,(1,.t 66))]),nP (.sto 2 (.t 5) (.t 67))] (.seq (sR [mV 68 15,oP 69 (.len (.t 68)),oP 70 (.mv (.c i0))] (.block 2 (.loop (sR [bN 71 .lss 70 69] (.seq (.cond (.t 71) .skip (.exit 2)) (.seq (.block 3 (sR [mV 72 70,oP 73 (.iad 4 (.t 68) (.t 70)),lA 74 4 73,oP 22 (.alloc 127 [i0,.bool false,i0,i0]),mV 21 72,nP (.sto 4 (.t 22) (.t 74))] (.drw [0,1,0,4,0,0,48,112,252,508,1023,2047,4095] [(0,fD 75 1 5),(1,lD 76 1 75),(2,fD 77 0 22),(3,lD 78 1 77),(4,mV 79 20),(5,mV 80 21),(6,oP 81 (.iad 1 (.t 79) (.t 80))),(7,lD 82 1 81),(8,oP 83 (.build [i0,s0] [(0,(1,.t 78)),(1,(1,.t 82))])),(9,oP 84 (.bsl 125 2 [.t 83])),(10,oP 85 (.app 125 2 (.t 76) (.t 84))),(11,fD 86 1 5),(12,nP (.sto 1 (.t 86) (.t 85)))]))) (.reg [oP 87 (.bin .add (.t 70) (.c (.int .i64 1))),mV 70 87]))))))) (.seq (.drw [0,0,1,7,15] [(0,mV 88 19),(1,lA 89 2 5),(2,mV 10 88),(3,nP (.sto 2 (.t 11) (.t 89))),(4,oP 12 (.mv (.c (.bool true))))]) .ret)))))))))
theorem dg188:Dg Tryz.prog 188 Tryz.f188 ic188 [(.t 10),(.cell 11 2 true),(.t 12)]:=⟨Tryz.func188,by kernel_rfl,by kernel_rfl⟩
theorem c188 (m:List Pair) (s:Strm) (n:Int) (t:B) (out:Bool) (h:PutOk m s n t):FnR Tryz.prog G 188 [.agg [.str s.inn,.sl 2 (s.parts.map Part.row)],.sl 3 (m.map Pair.row),.int .i64 n,.str t,.bool out]
    (.tup [.sl 3 ((put m s n t out).1.map Pair.row),.agg [.str (put m s n t out).2.1.inn,.sl 2 ((put m s n t out).2.1.parts.map Part.row)],.bool (put m s n t out).2.2]):=by
  refine mF dg188 Tryz.ntmps188 ?_
  obtain ⟨hm,hs,hn,ht⟩:=h
  obtain ⟨hp,hml⟩:=mapOk_ports hm
  obtain ⟨s1,s2,s3⟩:=strmOk_B hs
  simp only [ic188,go_sem]
  refine callR (c161 s.inn n t (by omega) (by omega) (by omega)) rfl rfl ?_
  simp only [go_sem]
  cases hb:(behind s.inn n t).2<;>simp only [go_sem]
  · with_reducible repeat' (first|rw [i64w (by omega)];try simp only [go_sem]|refine br ?_ ?_<;>intro h e<;>(try simp only [e,go_sem])<;>clear e|refine sd ?_<;>try simp only [go_sem]|fail)
    simp [put,hb]
  obtain ⟨x,hx,hx40⟩:=behind_app hb
  obtain ⟨f1,f2,f3,f4⟩:=put_fits hs x
  have hpl:=pieces_len (behind s.inn n t).1
  have hput:put m s n t out=((turned m ((pieces (behind s.inn n t).1).drop s.parts.length) ((behind s.inn n t).1.drop (doneP s.parts)) out).1,
      ⟨(behind s.inn n t).1,s.parts++mkParts ((pieces (behind s.inn n t).1).drop s.parts.length) (turned m ((pieces (behind s.inn n t).1).drop s.parts.length) ((behind s.inn n t).1.drop (doneP s.parts)) out).2⟩,true):=by
    simp [put,hb]
  rw [hput]
  rw [← hx] at f1 f2 f3 f4
  generalize (behind s.inn n t).1=inn at *
  have hil:inn.length≤80:=by rw [hx];simp;omega
  with_reducible repeat' (first|rw [i64w (by omega)];try simp only [go_sem]|refine br ?_ ?_<;>intro h e<;>(try simp only [e,go_sem])<;>clear e|refine sd ?_<;>try simp only [go_sem]|(first|refine cr (c46 ..) ?_)<;>try simp only [go_sem]|fail)
  refine loopN (fun i:Nat=>⟨getL [(1,.sl 3 (m.map Pair.row)),(4,.bool out),(5,.pv 1005 0),(11,.pv 1011 0),(13,.str inn),(15,.sl 4 (((pieces inn).drop s.parts.length).map Pc.row)),(16,.int .i64 (doneP (s.parts.take i))),(42,.sl 2 (s.parts.map Part.row)),(43,.int .i64 s.parts.length),(44,.int .i64 (i:Int))],
    getH [(1005,.var 44 [.str s.inn,.sl 2 (s.parts.map Part.row)]),(1011,.var 44 [.str [],.nils])]⟩) (fun i=>s.parts.length - i) (fun i=>i≤s.parts.length) 0 ?_ (Nat.zero_le _) ?_
  · refine leN [] ?_ (by simp only [go_sem]) (by simp [getN]) (by simp only [go_sem])
    simp only [go_sem]
    rw [List.take_length];exact ⟨rfl,rfl⟩
  intro i hi
  simp only [go_sem]
  have hdl:=doneL_le (l:=s.parts) (fun p hp=>(s3 p hp).1.2) i
  by_cases h:(i:Int)<s.parts.length
  · have hil:i<s.parts.length:=by omega
    have hst:=doneL_step hil
    have h3':=(s3 _ (List.getElem_mem hil)).1
    have hg:s.parts.getD i default=s.parts[i]:=by simp [List.getD,hil]
    simp only [eq_true h,go_sem]
    refine effG (by omega) ?_
    simp only [hg,go_sem]
    with_reducible repeat' (first|rw [i64w (by omega)];try simp only [go_sem]|refine br ?_ ?_<;>intro h e<;>(try simp only [e,go_sem])<;>clear e|refine sd ?_<;>try simp only [go_sem]|fail)
    refine ⟨i+1,by omega,by omega,leN [] (by simp only [go_sem,hst];omega) (by simp only [go_sem]) (by simp [getN]) (by simp only [go_sem])⟩
  · simp only [eq_false h,go_sem]
    have:i=s.parts.length:=by omega
    subst this
    rw [List.take_length] at *
    with_reducible repeat' (first|rw [i64w (by omega)];try simp only [go_sem]|refine br ?_ ?_<;>intro h e<;>(try simp only [e,go_sem])<;>clear e|refine sd ?_<;>try simp only [go_sem]|fail)
    rw [List.take_length]
    refine callR (c45 m _ _ out hp (by omega) (by simp;omega) (by simp;omega) f4) rfl rfl ?_
    simp only [go_sem]
    refine callO (c135 (s.parts.map Part.row) (by simp;omega)) [] 66 1 (by simp only [go_sem];first|done|simp) (by simp) (by rintro _ _ ⟨rfl,rfl⟩;simp) (by intro i hi;obtain rfl:i=0:=(by omega);simp only [go_sem]) ?_
    rintro _ _ ⟨rfl,rfl⟩
    simp only [go_sem]
    have htl:=turned_len ((pieces inn).drop s.parts.length) m (inn.drop (doneP s.parts)) out
    generalize turned m ((pieces inn).drop s.parts.length) (inn.drop (doneP s.parts)) out=r at *
    have hll:((pieces inn).drop s.parts.length).length≤80:=by simp;omega
    generalize (pieces inn).drop s.parts.length=l at *
    refine loopN (fun i:Nat=>⟨getL [(5,.pv 1005 0),(11,.pv 1011 0),(19,.sl 3 (r.1.map Pair.row)),(20,.sl 1 (r.2.map fun x=>[.str x])),(68,.sl 4 (l.map Pc.row)),(69,.int .i64 l.length),(70,.int .i64 (i:Int))],
      getH [(1005,.var 44 [.str inn,.own 106600 (s.parts.length+i)]),(1011,.var 44 [.str [],.nils]),(106600,.arr 125 2 ((s.parts++mkParts (l.take i) (r.2.take i)).map Part.row))]⟩) (fun i=>l.length - i) (fun i=>i≤l.length) 0 ?_ (Nat.zero_le _) ?_
    · refine leN [] (by simp only [go_sem];first|done|rfl) ?_ (by simp [getN]) (by simp only [go_sem])
      simp only [go_sem];simp [mkParts]
    intro i hi
    simp only [go_sem]
    by_cases h2:(i:Int)<l.length
    · have hil2:i<l.length:=by omega
      have hst:=mkParts_step l r.2 i htl hil2
      have hml:(mkParts (l.take i) (r.2.take i)).length=i:=by
        rw [mkParts_len (by simp;omega)];simp;omega
      have hml2:(s.parts++mkParts (l.take i) (r.2.take i)).length=s.parts.length+i:=by simp [hml]
      simp only [eq_true h2,go_sem]
      refine effG (by omega) ?_
      simp only [go_sem]
      with_reducible repeat' (first|rw [i64w (by omega)];try simp only [go_sem]|refine br ?_ ?_<;>intro h e<;>(try simp only [e,go_sem])<;>clear e|refine sd ?_<;>try simp only [go_sem]|fail)
      refine ⟨i+1,by omega,by omega,leN [(106600,1085)] ?_ ?_ (by simp [getN]) (by simp only [go_sem])⟩
      · simp only [go_sem];omega
      · simp only [go_sem,hst];simp [Part.row];omega
    · simp only [eq_false h2,go_sem]
      have:i=l.length:=by omega
      subst this
      rw [List.take_length,← htl,List.take_length]
      with_reducible repeat' (first|rw [i64w (by omega)];try simp only [go_sem]|refine br ?_ ?_<;>intro h e<;>(try simp only [e,go_sem])<;>clear e|refine sd ?_<;>try simp only [go_sem]|fail)
      first|exact ⟨rfl,by rw [List.length_append,mkParts_len htl,htl]⟩|rw [List.length_append,mkParts_len htl,htl]
def acksR (s:Strm) (p:Pk):Pk × Bool:=if p.at_>(sOut s).length then (.zero,false) else ({ p with at_:=backP s.parts p.at_ },true)
def ic176:IC:=sR [oP 2 (.box 44 (.t 0)),oP 3 (.box 54 (.t 1)),oP 4 (.alloc 54 [i0,i0,i0,i0,i0,i0,s0]),oP 5 (.mv (.c (.bool false)))] (.seq (.seq (.drw [0,1,0,4,12,31] [(0,fD 6 5 3),(1,lD 7 1 6),(2,lA 8 2 2),(3,oP 9 (.call 42 [.t 8])),(4,oP 10 (.lens (.t 9))),(5,bN 11 .gtr 7 10)]) (.cond (.t 11) (sR [oP 12 (.build [i0,i0,i0,i0,i0,i0,s0] []),nP (.sto 7 (.t 4) (.t 12)),oP 5 (.mv (.c (.bool false)))] .ret) .skip)) (sR [lA 13 2 2,fD 14 5 3,lD 15 1 14,oP 16 (.call 187 [.t 13,.t 15]),fD 17 5 3,nP (.sto 1 (.t 17) (.t 16))] (sR [lA 18 7 3,nP (.sto 7 (.t 4) (.t 18)),oP 5 (.mv (.c (.bool true)))] .ret)))
theorem dg176:Dg Tryz.prog 176 Tryz.f176 ic176 [(.cell 4 7 true),(.t 5)]:=⟨Tryz.func176,by kernel_rfl,by kernel_rfl⟩
theorem c176 (s:Strm) (p:Pk) (h:StrB s) (hp : -10000≤p.at_∧p.at_≤10000):FnR Tryz.prog G 176 [.agg [.str s.inn,.sl 2 (s.parts.map Part.row)],.agg [.int .i64 p.kind,.int .i64 p.frm.a,.int .i64 p.frm.p,.int .i64 p.to.a,.int .i64 p.to.p,.int .i64 p.at_,.str p.text]]
    (.tup [.agg (Pk.row (acksR s p).1),.bool (acksR s p).2]):=by
  refine mF dg176 Tryz.ntmps176 ?_
  have so:=sOut_len h
  have f1:=c42 s h
  have f2:=c187 s p.at_ h hp
  simp only [ic176,go_sem]
  with_reducible repeat' (first|refine br ?_ ?_<;>intro h e<;>(try simp only [e,go_sem])<;>clear e|rw [i64w (by omega)]|refine sd ?_<;>try simp only [go_sem]|(first|refine cr (f1 ..) ?_|refine cr (f2 ..) ?_)<;>try simp only [go_sem]|fail)
  · simp only [acksR];rw [if_pos (by omega)];simp [Pk.zero,E.zero]
  · simp only [acksR];rw [if_neg (by omega)];simp
theorem r126 (rows:List (List V)) (hr:rows.length≤2000000):FnR Tryz.prog G 126 [.sl 3 rows] (.sl 3 rows):=by
  refine mF dg126 Tryz.ntmps126 ?_
  simp only [ic126,go_sem]
  refine callO (c163 rows hr) [] 4 1 (by simp only [go_sem];first|done|simp) (by simp) (by rintro _ _ ⟨rfl,rfl⟩;simp) (by intro i hi;obtain rfl:i=0:=(by omega);simp only [go_sem]) ?_
  rintro _ _ ⟨rfl,rfl⟩
  simp only [go_sem]
  refine callU (o162 rows rows.length rfl) [100400] [] 5 1 (by simp only [go_sem];first|done|simp) (by simp only [go_sem];first|done|simp) (by simp) (by simp) (by rintro _ _ ⟨rfl,rfl⟩;simp) (by intro i hi;obtain rfl:i=0:=(by omega);simp only [go_sem]) ?_
  rintro _ _ ⟨rfl,rfl⟩
  simp only [go_sem]
def ic177:IC:=sR [oP 6 (.box 54 (.t 2)),oP 8 (.alloc 54 [i0,i0,i0,i0,i0,i0,s0]),oP 9 (.mv (.c (.bool false)))] (sR [mV 17 1,oP 18 (.nilc (.t 17)),fD 19 0 18,lD 20 1 19,oP 21 (.lens (.t 20)),mV 10 21] (.seq (.drw [0,1,3,0,8,24,56,0,128,0,512,0,4095,8191,16383,16383,16383,0,163839,458751,1048575] [(0,mV 23 1),(1,oP 24 (.nilc (.t 23))),(2,lA 25 2 24),(3,mV 26 0),(4,oP 27 (.nilc (.t 26))),(5,fD 28 0 27),(6,lD 29 1 28),(7,fD 30 5 6),(8,lD 31 1 30),(9,fD 32 6 6),(10,lD 33 1 32),(11,mV 34 3),(12,oP 35 (.call 188 [.t 25,.t 29,.t 31,.t 33,.t 34])),(13,mV 22 35),(14,eX 36 22 0),(15,eX 37 22 1),(16,eX 38 22 2),(17,oP 12 (.alloc 44 [s0,.nils])),(18,mV 11 36),(19,nP (.sto 2 (.t 12) (.t 37))),(20,mV 13 38)]) (.seq (sR [mV 39 13,oP 40 (.un .not (.t 39))] (.cond (.t 40) (sR [oP 41 (.build [i0,i0,i0,i0,i0,i0,s0] []),nP (.sto 7 (.t 8) (.t 41)),oP 9 (.mv (.c (.bool false)))] .ret) .skip)) (.seq (.drw [0,0,0,4,0,13,45,109,255,511] [(0,mV 42 0),(1,mV 43 1),(2,mV 44 11),(3,oP 45 (.call 126 [.t 44])),(4,lA 46 2 12),(5,oP 47 (.nilc (.t 42))),(6,fD 48 0 47),(7,nP (.sto 1 (.t 48) (.t 45))),(8,oP 49 (.nilc (.t 43))),(9,nP (.sto 2 (.t 49) (.t 46)))]) (sR [mV 50 1,oP 51 (.nilc (.t 50)),lA 52 2 51,oP 53 (.call 42 [.t 52]),mV 14 53] (.seq (.drw [0,1,3,0,8,31,0,64,63,511] [(0,mV 54 1),(1,oP 55 (.nilc (.t 54))),(2,lA 56 2 55),(3,fD 57 5 6),(4,lD 58 1 57),(5,oP 59 (.call 189 [.t 56,.t 58])),(6,mV 60 14),(7,oP 61 (.lens (.t 60))),(8,mV 15 59),(9,mV 16 61)]) (.seq (sR [mV 62 1,oP 63 (.nilc (.t 62)),fD 64 0 63,lD 65 1 64,oP 66 (.lens (.t 65)),mV 67 10,bN 68 .eql 66 67] (.cond (.t 68) (.drw [0,1,3,0,8,0,32,96,248,0,1016,2047,4095] [(0,mV 69 1),(1,oP 70 (.nilc (.t 69))),(2,lA 71 2 70),(3,fD 72 5 6),(4,lD 73 1 72),(5,fD 74 6 6),(6,lD 75 1 74),(7,oP 76 (.lens (.t 75))),(8,bN 77 .add 73 76),(9,mV 78 10),(10,oP 79 (.mn (.t 77) (.t 78))),(11,oP 80 (.call 189 [.t 71,.t 79])),(12,mV 16 80)]) .skip)) (.seq (.drw [0,0,0,0,0,24,62,1,129,511,1023] [(0,mV 81 15),(1,mV 82 14),(2,mV 83 15),(3,mV 84 16),(4,mV 85 15),(5,oP 86 (.mx (.t 84) (.t 85))),(6,oP 87 (.sls (.t 82) (some (.t 83)) (some (.t 86)))),(7,fD 88 5 6),(8,nP (.sto 1 (.t 88) (.t 81))),(9,fD 89 6 6),(10,nP (.sto 1 (.t 89) (.t 87)))]) (.seq (.drw [0,0,2,6,14,31,63] [(0,lA 90 7 6),(1,fD 91 6 6),(2,lD 92 1 91),(3,oP 93 (.lens (.t 92))),(4,oP 94 (.call 38 [.t 93,.c (.int .i64 1),.c (.int .i64 40)])),(5,nP (.sto 7 (.t 8) (.t 90))),(6,mV 9 94)]) .ret)))))))))
theorem dg177:Dg Tryz.prog 177 Tryz.f177 ic177 [(.cell 8 7 true),(.t 9)]:=⟨Tryz.func177,by kernel_rfl,by kernel_rfl⟩
def ic160:IC:=sR [oP 3 (.box 54 (.t 1)),oP 4 (.alloc 54 [i0,i0,i0,i0,i0,i0,s0]),oP 5 (.mv (.c (.bool false)))] (.seq (.drw [0,1,3,7,0,16,48,127,255,511,511,0,3071,8191] [(0,mV 10 0),(1,oP 11 (.nilc (.t 10))),(2,fD 12 0 11),(3,lD 13 1 12),(4,fD 14 3 3),(5,fD 15 1 14),(6,lD 16 1 15),(7,oP 17 (.call 139 [.t 13,.t 16])),(8,mV 9 17),(9,eX 18 9 0),(10,eX 19 9 1),(11,oP 6 (.alloc 39 [i0,i0])),(12,nP (.sto 2 (.t 6) (.t 18))),(13,mV 7 19)]) (.seq (.drw [0,1,3,0,0,16,63,127] [(0,mV 20 0),(1,oP 21 (.nilc (.t 20))),(2,lA 22 2 21),(3,lA 23 2 6),(4,fD 24 1 3),(5,lA 25 2 24),(6,oP 26 (.call 39 [.t 22,.t 23,.t 25])),(7,mV 8 26)]) (.seq (sR [mV 27 7,oP 28 (.un .not (.t 27)),mV 29 28,⟨some 30,some (29,false),.mv (.t 8)⟩,⟨some 31,some (29,false),.bin .lss (.t 30) (.c i0)⟩,oP 32 (.pick (.t 29) (.c (.bool true)) (.t 31))] (.cond (.t 32) (sR [oP 33 (.build [i0,i0,i0,i0,i0,i0,s0] []),nP (.sto 7 (.t 4) (.t 33)),oP 5 (.mv (.c (.bool false)))] .ret) .skip)) (sR [lA 34 2 6,fD 35 3 3,nP (.sto 2 (.t 35) (.t 34))] (.seq (sR [fD 36 0 3,lD 37 1 36,oP 38 (.bin .eql (.t 37) (.c (.int .i64 2)))] (.cond (.t 38) (.seq (.drw [0,1,3,7,0,31,63,127,0,511,1023,1023,4095,8191] [(0,mV 39 0),(1,oP 40 (.nilc (.t 39))),(2,fD 41 1 40),(3,lD 42 1 41),(4,mV 43 8),(5,oP 44 (.iad 8 (.t 42) (.t 43))),(6,fD 45 4 44),(7,lA 46 2 45),(8,lA 47 7 3),(9,oP 48 (.call 176 [.t 46,.t 47])),(10,eX 49 48 0),(11,eX 50 48 1),(12,nP (.sto 7 (.t 4) (.t 49))),(13,mV 5 50)]) .ret) .skip)) (.seq (.drw [0,0,2,6,14,0,62,126,0,511,1023,1023,4095,8191] [(0,mV 51 0),(1,mV 52 0),(2,oP 53 (.nilc (.t 52))),(3,fD 54 1 53),(4,lD 55 1 54),(5,mV 56 8),(6,oP 57 (.iad 8 (.t 55) (.t 56))),(7,fD 58 6 57),(8,lA 59 7 3),(9,oP 60 (.call 177 [.t 51,.t 58,.t 59,.c (.bool false)])),(10,eX 61 60 0),(11,eX 62 60 1),(12,nP (.sto 7 (.t 4) (.t 61))),(13,mV 5 62)]) .ret))))))
theorem dg160:Dg Tryz.prog 160 Tryz.f160 ic160 [(.cell 4 7 true),(.t 5)]:=⟨Tryz.func160,by kernel_rfl,by kernel_rfl⟩
theorem openF_full {d:Door} {i o:E} (h:flowIx d.flows i o=none) (h3:¬ d.flows.length<4):openR d i o=(d,0,false):=by
  rcases hm:mOut d.map i with ⟨m,n,ok⟩
  cases ok<;>simp [openR,openF,h,hm,h3]
theorem getD_last (l:List (List V)) (r:List V) {n:Nat} (h:n=l.length) (x:List V):(l++[r]).getD n x=r:=by
  subst h;simp [List.getD]
theorem rowsNew (fs:List Flw) (i o:E):RowsW (fs.map Flw.row++[[.int .i64 i.a,.int .i64 i.p,.int .i64 o.a,.int .i64 o.p,.str [],.nils,.str [],.nils]]) ((fs++[Flw.mk i o .zero .zero]).map Flw.row):=by
  rw [List.map_append]
  exact RowsW.app (RowsW.refl _) (RowsW.one (.same _ (.same _ (.same _ (.same _ (.same _ (.nils 2 (.same _ (.nils 2 .nil)))))))))
def ic159:IC:=sR [oP 3 (.box 54 (.t 1)),oP 4 (.alloc 54 [i0,i0,i0,i0,i0,i0,s0]),oP 5 (.mv (.c (.bool false)))] (.seq (.drw [0,1,3,0,8,0,32,127,255] [(0,mV 10 0),(1,oP 11 (.nilc (.t 10))),(2,lA 12 2 11),(3,fD 13 1 3),(4,lA 14 2 13),(5,fD 15 3 3),(6,lA 16 2 15),(7,oP 17 (.call 39 [.t 12,.t 14,.t 16])),(8,mV 6 17)]) (.seq (sR [mV 18 6,oP 19 (.bin .lss (.t 18) (.c i0))] (.cond (.t 19) (.seq (.drw [0,1,3,7,0,16,63,127,255,255,255,511,3071,8191] [(0,mV 21 0),(1,oP 22 (.nilc (.t 21))),(2,fD 23 0 22),(3,lD 24 1 23),(4,fD 25 1 3),(5,lA 26 2 25),(6,oP 27 (.call 137 [.t 24,.t 26])),(7,mV 20 27),(8,eX 28 20 0),(9,eX 29 20 1),(10,eX 30 20 2),(11,mV 7 28),(12,mV 8 29),(13,mV 9 30)]) (.seq (sR [mV 31 9,oP 32 (.un .not (.t 31)),mV 33 32,⟨some 34,some (33,false),.mv (.t 0)⟩,⟨some 35,some (33,false),.nilc (.t 34)⟩,⟨some 36,some (33,false),.fad 1 (.t 35)⟩,⟨some 37,some (33,false),.ld 1 false (.t 36)⟩,⟨some 38,some (33,false),.len (.t 37)⟩,⟨some 39,some (33,false),.bin .geq (.t 38) (.c (.int .i64 4))⟩,oP 40 (.pick (.t 33) (.c (.bool true)) (.t 39))] (.cond (.t 40) (sR [oP 41 (.build [i0,i0,i0,i0,i0,i0,s0] []),nP (.sto 7 (.t 4) (.t 41)),oP 5 (.mv (.c (.bool false)))] .ret) .skip)) (sR [mV 42 0,oP 43 (.nilc (.t 42)),fD 44 1 43,lD 45 1 44,oP 46 (.len (.t 45)),mV 6 46] (sR [mV 47 0,mV 48 7,oP 49 (.nilc (.t 47)),fD 50 0 49,nP (.sto 1 (.t 50) (.t 48))] (.drw [0,0,2,6,14,0,32,0,128,480,992,2046,4095,8191,16383] [(0,mV 51 0),(1,mV 52 0),(2,oP 53 (.nilc (.t 52))),(3,fD 54 1 53),(4,lD 55 1 54),(5,fD 56 1 3),(6,lA 57 2 56),(7,fD 58 3 3),(8,lA 59 2 58),(9,oP 60 (.build [i0,i0,i0,i0,s0,.nils,s0,.nils] [(0,(2,.t 57)),(2,(2,.t 59))])),(10,oP 61 (.bsl 46 8 [.t 60])),(11,oP 62 (.app 46 8 (.t 55) (.t 61))),(12,oP 63 (.nilc (.t 51))),(13,fD 64 1 63),(14,nP (.sto 1 (.t 64) (.t 62)))]))))) .skip)) (.seq (.drw [0,1,3,7,0,16,63,127,255,511] [(0,mV 65 0),(1,oP 66 (.nilc (.t 65))),(2,fD 67 0 66),(3,lD 68 1 67),(4,fD 69 1 3),(5,lA 70 2 69),(6,oP 71 (.call 92 [.t 68,.t 70])),(7,oP 72 (.build [i0,i0] [(0,(1,.c (.int .i64 9))),(1,(1,.t 71))])),(8,fD 73 1 3),(9,nP (.sto 2 (.t 73) (.t 72)))]) (.seq (sR [fD 74 0 3,lD 75 1 74,oP 76 (.bin .eql (.t 75) (.c (.int .i64 2)))] (.cond (.t 76) (.seq (.drw [0,1,3,7,0,31,63,127,0,511,1023,1023,4095,8191] [(0,mV 77 0),(1,oP 78 (.nilc (.t 77))),(2,fD 79 1 78),(3,lD 80 1 79),(4,mV 81 6),(5,oP 82 (.iad 8 (.t 80) (.t 81))),(6,fD 83 6 82),(7,lA 84 2 83),(8,lA 85 7 3),(9,oP 86 (.call 176 [.t 84,.t 85])),(10,eX 87 86 0),(11,eX 88 86 1),(12,nP (.sto 7 (.t 4) (.t 87))),(13,mV 5 88)]) .ret) .skip)) (.seq (.drw [0,0,2,6,14,0,62,126,0,511,1023,1023,4095,8191] [(0,mV 89 0),(1,mV 90 0),(2,oP 91 (.nilc (.t 90))),(3,fD 92 1 91),(4,lD 93 1 92),(5,mV 94 6),(6,oP 95 (.iad 8 (.t 93) (.t 94))),(7,fD 96 4 95),(8,lA 97 7 3),(9,oP 98 (.call 177 [.t 89,.t 96,.t 97,.c (.bool true)])),(10,eX 99 98 0),(11,eX 100 98 1),(12,nP (.sto 7 (.t 4) (.t 99))),(13,mV 5 100)]) .ret)))))
theorem dg159:Dg Tryz.prog 159 Tryz.f159 ic159 [(.cell 4 7 true),(.t 5)]:=⟨Tryz.func159,by kernel_rfl,by kernel_rfl⟩
theorem copyC {d:Door} (hd:doorOk d=true):∀ f∈d.flows,f.up.parts.length≤2000000∧f.down.parts.length≤2000000:=fun f hf=>by
  obtain ⟨k,hk⟩:=List.mem_iff_getElem?.1 hf
  obtain ⟨_,_,h1,h2,_⟩:=flow_at hd hk
  have:=(strmOk_B h1).2.1
  have:=(strmOk_B h2).2.1
  omega
def ic122:IC:=sR [oP 3 (.box 54 (.t 1)),oP 4 (.alloc 54 [i0,i0,i0,i0,i0,i0,s0]),oP 5 (.mv (.c (.bool false)))] (.seq (.block 0 (sR [lA 7 7 3,oP 8 (.call 158 [.t 7]),mV 6 8] (.cond (.t 6) (sR [mV 9 0,lA 10 7 3,oP 11 (.call 159 [.t 9,.t 10]),eX 12 11 0,eX 13 11 1,nP (.sto 7 (.t 4) (.t 12)),mV 5 13] .ret) (sR [lA 15 7 3,oP 16 (.call 73 [.t 15]),mV 14 16] (.cond (.t 14) (sR [mV 17 0,lA 18 7 3,oP 19 (.call 160 [.t 17,.t 18]),eX 20 19 0,eX 21 19 1,nP (.sto 7 (.t 4) (.t 20)),mV 5 21] .ret) .skip))))) (sR [oP 22 (.build [i0,i0,i0,i0,i0,i0,s0] []),nP (.sto 7 (.t 4) (.t 22)),oP 5 (.mv (.c (.bool false)))] .ret))
theorem dg122:Dg Tryz.prog 122 Tryz.f122 ic122 [(.cell 4 7 true),(.t 5)]:=⟨Tryz.func122,by kernel_rfl,by kernel_rfl⟩
theorem k76 (rows:List (List V)) (fs:List Flw) (hr:rows.length≤2000000) (hf:fs.length≤1000000) (h:∀ f∈fs,f.up.parts.length≤2000000∧f.down.parts.length≤2000000) :
    FnP Tryz.prog G 76 0 [] [.agg [.sl 3 rows,.sl 8 (fs.map Flw.row)]] (fun r o=>r=.agg [.sl 3 rows,.own 0 fs.length]∧o=[.arr 46 8 (fs.map Flw.row)]):=by
  refine mP dg76 Tryz.ntmps76 ⟨_,_,rfl,rfl⟩ ?_
  simp only [ic76,go_sem]
  with_reducible repeat' (first|refine br ?_ ?_<;>intro h e<;>(try simp only [e,go_sem])<;>clear e|rw [i64w (by omega)]|refine sd ?_<;>try simp only [go_sem]|fail)
  refine callO (c126 rows hr) [] 8 1 (by simp only [go_sem];first|done|simp) (by simp) (by rintro _ _ ⟨rfl,rfl⟩;simp) (by intro i hi;obtain rfl:i=0:=(by omega);simp only [go_sem]) ?_
  rintro _ _ ⟨rfl,rfl⟩
  simp only [go_sem]
  with_reducible repeat' (first|refine br ?_ ?_<;>intro h e<;>(try simp only [e,go_sem])<;>clear e|rw [i64w (by omega)]|refine sd ?_<;>try simp only [go_sem]|fail)
  refine loopN (fun k:Nat=>⟨getL [(2,.pv 1002 0),(3,.pv 1003 0),(15,.sl 8 (fs.map Flw.row)),(16,.int .i64 fs.length),(17,.int .i64 (k:Int))],getH [(1002,.var 30 [.nils,.nils]),(1003,.var 30 [.own 100800 rows.length,.own 1012 k]),(100800,.arr 64 3 rows),(1012,.arr 46 8 ((fs.take k).map Flw.row))]⟩) (fun k=>fs.length - k)
    (fun k=>k≤fs.length) 0 (leQ []) (Nat.zero_le _) ?_
  intro k hk
  simp only [go_sem]
  by_cases h5:(k:Int)<fs.length
  · have hil:k<fs.length:=by omega
    have hg:fs.getD k default=fs[k]:=by simp [List.getD,hil]
    have hlen:(fs.take k).length=k:=by simp;omega
    have c1:=c40 fs[k] (h _ (List.getElem_mem hil))
    simp only [eq_true h5,go_sem]
    with_reducible repeat' (first|refine br ?_ ?_<;>intro h e<;>(try simp only [e,go_sem,hg,hlen])<;>clear e|rw [i64w (by omega)]|refine sd ?_<;>try simp only [go_sem,hg,hlen]|(first|refine cr (c1 ..) ?_)<;>try simp only [go_sem,hg,hlen]|fail)
    refine ⟨k+1,by omega,by omega,leN [(1012,1026)] ?_ ?_ (by simp [getN]) (by simp only [go_sem])⟩
    · simp only [go_sem];first|done|omega
    · simp only [go_sem];rw [List.take_add_one,List.getElem?_eq_getElem hil];simp only [Option.toList_some,List.map_append,List.map_cons,List.map_nil,Flw.row]
  · simp only [eq_false h5,go_sem]
    have:k=fs.length:=by omega
    subst this
    rw [List.take_length]
    with_reducible repeat' (first|refine br ?_ ?_<;>intro h e<;>(try simp only [e,go_sem])<;>clear e|rw [i64w (by omega)]|refine sd ?_<;>try simp only [go_sem]|fail)
    refine retN (.agg [.sl 3 rows,.own 0 fs.length]) [.arr 46 8 (fs.map Flw.row)] [(0,1012)] ?_ ⟨rfl,rfl⟩ ?_ (by simp [argH,getN]) (by simp only [go_sem])
    · simp only [go_sem];first|done|simp
    · simp only [go_sem]
def goesW_up (u:M.World) (m:List Pair) (fs:List Flw) (k:Nat) (p:Pk) (out:Bool) (r:V) (o:List Hs):Prop :=
  ((put m (fs.getD k default).up p.at_ p.text out).2.2=false∧r=.tup [.agg (Pk.row .zero),.bool false]∧o=[.var 33 [.own 2 u.convs.length,.sl 3 (m.map Pair.row),.own 1 fs.length,.own 3 u.nets.length],.arr 46 8 (fs.map Flw.row),.arr 41 10 (u.convs.map Conv.row),.arr 54 7 (u.nets.map Pk.row)]) ∨
  ((put m (fs.getD k default).up p.at_ p.text out).2.2=true∧r=.tup [.agg (Pk.row (goesR (fs.getD k default).up (put m (fs.getD k default).up p.at_ p.text out).2.1 p).1),.bool (goesR (fs.getD k default).up (put m (fs.getD k default).up p.at_ p.text out).2.1 p).2] ∧
    o=[.var 33 [.own 2 u.convs.length,.sl 3 ((put m (fs.getD k default).up p.at_ p.text out).1.map Pair.row),.own 1 fs.length,.own 3 u.nets.length],.arr 46 8 ((fs.set k { fs.getD k default with up:=(put m (fs.getD k default).up p.at_ p.text out).2.1 }).map Flw.row),.arr 41 10 (u.convs.map Conv.row),.arr 54 7 (u.nets.map Pk.row)])
theorem goesW_no_up {u:M.World} {m:List Pair} {fs:List Flw} {k:Nat} {p:Pk} {out:Bool} {f:Flw} {m':List Pair} {s':Strm} (hf:fs.getD k default=f) (hP:put m f.up p.at_ p.text out=(m',s',false)) :
    goesW_up u m fs k p out (.tup [.agg (Pk.row .zero),.bool false]) [.var 33 [.own 2 u.convs.length,.sl 3 (m.map Pair.row),.own 1 fs.length,.own 3 u.nets.length],.arr 46 8 (fs.map Flw.row),.arr 41 10 (u.convs.map Conv.row),.arr 54 7 (u.nets.map Pk.row)]:=by
  unfold goesW_up
  rw [hf,hP]
  exact Or.inl ⟨rfl,rfl,rfl⟩
theorem goesW_yes_up {u:M.World} {m:List Pair} {fs:List Flw} {k:Nat} {p:Pk} {out:Bool} {f:Flw} {m':List Pair} {s':Strm} (hf:fs.getD k default=f) (hP:put m f.up p.at_ p.text out=(m',s',true)) :
    goesW_up u m fs k p out (.tup [.agg (Pk.row (goesR f.up s' p).1),.bool (goesR f.up s' p).2]) [.var 33 [.own 2 u.convs.length,.sl 3 (m'.map Pair.row),.own 1 fs.length,.own 3 u.nets.length],.arr 46 8 ((fs.set k { f with up:=s' }).map Flw.row),.arr 41 10 (u.convs.map Conv.row),.arr 54 7 (u.nets.map Pk.row)]:=by
  unfold goesW_up
  rw [hf,hP]
  exact Or.inr ⟨rfl,rfl,rfl⟩
theorem w177up (u:M.World) (m:List Pair) (fs:List Flw) (k:Nat) (p:Pk) (out:Bool) (hm:mapOk m=true) (hk:k<fs.length) (hs:strmOk (fs.getD k default).up=true) (hp:PkP p) (htx:txOk p.text=true) :
    FnP Tryz.prog G 177 4 [.var 33 [.own 2 u.convs.length,.sl 3 (m.map Pair.row),.own 1 fs.length,.own 3 u.nets.length],.arr 46 8 (fs.map Flw.row),.arr 41 10 (u.convs.map Conv.row),.arr 54 7 (u.nets.map Pk.row)] [.pv 0 1,.pa 1 k 4,.agg [.int .i64 p.kind,.int .i64 p.frm.a,.int .i64 p.frm.p,.int .i64 p.to.a,.int .i64 p.to.p,.int .i64 p.at_,.str p.text],.bool out] (goesW_up u m fs k p out):=by
  refine mP dg177 Tryz.ntmps177 ?_ ?_
  · cases hb:(put m (fs.getD k default).up p.at_ p.text out).2.2
    · exact ⟨_,_,.inl ⟨hb,rfl,rfl⟩⟩
    · exact ⟨_,_,.inr ⟨hb,rfl,rfl⟩⟩
  have hpa:=hp.at_
  have hpl:=hp.len
  have hpk:=put_ok (m:=m) (s:=(fs.getD k default).up) (n:=p.at_) (t:=p.text) (out:=out) hm hs htx hpa.1
  have sb:=strmOk_B hs
  obtain ⟨s1,s2,s3⟩:=sb
  have f0:=c188 m (fs.getD k default).up p.at_ p.text out ⟨hm,hs,hpa,hpl⟩
  have gs:∀ R,((fs.map Flw.row).set k R).getD k []=R:=fun R=>by simp [List.getD,hk]
  generalize hf:fs.getD k default=f at *
  simp only [ic177,go_sem,getD_mp hk,hf]
  with_reducible repeat' (first|refine br ?_ ?_<;>intro h e<;>(try simp only [e,go_sem,getD_mp hk,hf])<;>clear e|rw [i64w (by omega)]|refine sd ?_<;>try simp only [go_sem,getD_mp hk,hf]|fail)
  refine callR f0 rfl rfl ?_
  have hml:=(mapOk_ports hpk.1).2
  have sb:=strmOk_B hpk.2
  have so:=sOut_len sb
  have gr:∀ a b,forP (put m f.up p.at_ p.text out).2.1.parts p.at_=a→toR f.up (put m f.up p.at_ p.text out).2.1 p=b→goesR f.up (put m f.up p.at_ p.text out).2.1 p=({ p with at_:=a,text:=((sOut (put m f.up p.at_ p.text out).2.1).take (max b a).toNat).drop a.toNat },within (((sOut (put m f.up p.at_ p.text out).2.1).take (max b a).toNat).drop a.toNat).length 1 40):=fun a b ha hb=>by subst ha;subst hb;rfl
  have hto:toR f.up (put m f.up p.at_ p.text out).2.1 p=if f.up.inn.length<(put m f.up p.at_ p.text out).2.1.inn.length then ((sOut (put m f.up p.at_ p.text out).2.1).length:Int) else forP (put m f.up p.at_ p.text out).2.1.parts (min (p.at_+p.text.length) (put m f.up p.at_ p.text out).2.1.inn.length):=rfl
  have fo1:0≤forP (put m f.up p.at_ p.text out).2.1.parts p.at_∧forP (put m f.up p.at_ p.text out).2.1.parts p.at_≤(sOut (put m f.up p.at_ p.text out).2.1).length:=forP_le _
  have fo2:0≤forP (put m f.up p.at_ p.text out).2.1.parts (min (p.at_+p.text.length) f.up.inn.length)∧forP (put m f.up p.at_ p.text out).2.1.parts (min (p.at_+p.text.length) f.up.inn.length)≤(sOut (put m f.up p.at_ p.text out).2.1).length:=forP_le _
  have hinn:f.up.inn.length≤(put m f.up p.at_ p.text out).2.1.inn.length:=put_inn ..
  generalize hP:put m f.up p.at_ p.text out=P at *
  obtain ⟨m',s',ok⟩:=P
  simp only at hpk hml sb so gr hto fo1 fo2 hinn
  cases ok<;>simp only [go_sem]
  · with_reducible repeat' (first|refine br ?_ ?_<;>intro h e<;>(try simp only [e,go_sem])<;>clear e|rw [i64w (by omega)]|refine sd ?_<;>try simp only [go_sem]|fail)
    refine retN (.tup [.agg (Pk.row .zero),.bool false]) [.var 33 [.own 2 u.convs.length,.sl 3 (m.map Pair.row),.own 1 fs.length,.own 3 u.nets.length],.arr 46 8 (fs.map Flw.row),.arr 41 10 (u.convs.map Conv.row),.arr 54 7 (u.nets.map Pk.row)] [] ?_ (goesW_no_up hf hP) ?_ (by simp [argH,getN]) (by simp only [go_sem])
    · simp only [go_sem,Pk.zero,E.zero]
    · simp only [go_sem]
  have f1:=r126 (m'.map Pair.row) (by simp;omega)
  have f2:=c42 s' sb
  have f3:=c189 s' p.at_ sb (by omega)
  have f4:=c189 s' (min (p.at_+p.text.length) f.up.inn.length) sb (by omega)
  generalize hA:forP s'.parts p.at_=A at *
  generalize hB:forP s'.parts (min (p.at_+p.text.length) f.up.inn.length)=Bb at *
  with_reducible repeat' (first|refine br ?_ ?_<;>intro h e<;>(try simp only [e,go_sem,getD_mp hk,hf,gs])<;>clear e|rw [i64w (by omega)]|refine sd ?_<;>try simp only [go_sem,getD_mp hk,hf,gs]|(first|refine cr (f1 ..) ?_|refine cr (f2 ..) ?_|refine cr (f3 ..) ?_|refine cr (f4 ..) ?_|refine cr (c38 ..) ?_)<;>try simp only [go_sem,getD_mp hk,hf,gs]|fail)
  · have hto':toR f.up s' p=Bb:=by rw [hto,if_neg (by omega),← hB];congr 2
    have g:=gr A _ rfl hto'
    refine retN (.tup [.agg (Pk.row (goesR f.up s' p).1),.bool (goesR f.up s' p).2]) [.var 33 [.own 2 u.convs.length,.sl 3 (m'.map Pair.row),.own 1 fs.length,.own 3 u.nets.length],.arr 46 8 ((fs.set k { f with up:=s' }).map Flw.row),.arr 41 10 (u.convs.map Conv.row),.arr 54 7 (u.nets.map Pk.row)] [] ?_ (goesW_yes_up hf hP) ?_ (by simp [argH,getN]) (by simp only [go_sem])
    · simp only [g,go_sem]
    · simp only [go_sem,List.map_set]
  · have hto':toR f.up s' p=((sOut s').length:Int):=by rw [hto,if_pos (by omega)]
    have g:=gr A _ rfl hto'
    refine retN (.tup [.agg (Pk.row (goesR f.up s' p).1),.bool (goesR f.up s' p).2]) [.var 33 [.own 2 u.convs.length,.sl 3 (m'.map Pair.row),.own 1 fs.length,.own 3 u.nets.length],.arr 46 8 ((fs.set k { f with up:=s' }).map Flw.row),.arr 41 10 (u.convs.map Conv.row),.arr 54 7 (u.nets.map Pk.row)] [] ?_ (goesW_yes_up hf hP) ?_ (by simp [argH,getN]) (by simp only [go_sem])
    · simp only [g,go_sem]
    · simp only [go_sem,List.map_set]
def goesW_down (u:M.World) (m:List Pair) (fs:List Flw) (k:Nat) (p:Pk) (out:Bool) (r:V) (o:List Hs):Prop :=
  ((put m (fs.getD k default).down p.at_ p.text out).2.2=false∧r=.tup [.agg (Pk.row .zero),.bool false]∧o=[.var 33 [.own 2 u.convs.length,.sl 3 (m.map Pair.row),.own 1 fs.length,.own 3 u.nets.length],.arr 46 8 (fs.map Flw.row),.arr 41 10 (u.convs.map Conv.row),.arr 54 7 (u.nets.map Pk.row)]) ∨
  ((put m (fs.getD k default).down p.at_ p.text out).2.2=true∧r=.tup [.agg (Pk.row (goesR (fs.getD k default).down (put m (fs.getD k default).down p.at_ p.text out).2.1 p).1),.bool (goesR (fs.getD k default).down (put m (fs.getD k default).down p.at_ p.text out).2.1 p).2] ∧
    o=[.var 33 [.own 2 u.convs.length,.sl 3 ((put m (fs.getD k default).down p.at_ p.text out).1.map Pair.row),.own 1 fs.length,.own 3 u.nets.length],.arr 46 8 ((fs.set k { fs.getD k default with down:=(put m (fs.getD k default).down p.at_ p.text out).2.1 }).map Flw.row),.arr 41 10 (u.convs.map Conv.row),.arr 54 7 (u.nets.map Pk.row)])
theorem goesW_no_down {u:M.World} {m:List Pair} {fs:List Flw} {k:Nat} {p:Pk} {out:Bool} {f:Flw} {m':List Pair} {s':Strm} (hf:fs.getD k default=f) (hP:put m f.down p.at_ p.text out=(m',s',false)) :
    goesW_down u m fs k p out (.tup [.agg (Pk.row .zero),.bool false]) [.var 33 [.own 2 u.convs.length,.sl 3 (m.map Pair.row),.own 1 fs.length,.own 3 u.nets.length],.arr 46 8 (fs.map Flw.row),.arr 41 10 (u.convs.map Conv.row),.arr 54 7 (u.nets.map Pk.row)]:=by
  unfold goesW_down
  rw [hf,hP]
  exact Or.inl ⟨rfl,rfl,rfl⟩
theorem goesW_yes_down {u:M.World} {m:List Pair} {fs:List Flw} {k:Nat} {p:Pk} {out:Bool} {f:Flw} {m':List Pair} {s':Strm} (hf:fs.getD k default=f) (hP:put m f.down p.at_ p.text out=(m',s',true)) :
    goesW_down u m fs k p out (.tup [.agg (Pk.row (goesR f.down s' p).1),.bool (goesR f.down s' p).2]) [.var 33 [.own 2 u.convs.length,.sl 3 (m'.map Pair.row),.own 1 fs.length,.own 3 u.nets.length],.arr 46 8 ((fs.set k { f with down:=s' }).map Flw.row),.arr 41 10 (u.convs.map Conv.row),.arr 54 7 (u.nets.map Pk.row)]:=by
  unfold goesW_down
  rw [hf,hP]
  exact Or.inr ⟨rfl,rfl,rfl⟩
theorem w177down (u:M.World) (m:List Pair) (fs:List Flw) (k:Nat) (p:Pk) (out:Bool) (hm:mapOk m=true) (hk:k<fs.length) (hs:strmOk (fs.getD k default).down=true) (hp:PkP p) (htx:txOk p.text=true) :
    FnP Tryz.prog G 177 4 [.var 33 [.own 2 u.convs.length,.sl 3 (m.map Pair.row),.own 1 fs.length,.own 3 u.nets.length],.arr 46 8 (fs.map Flw.row),.arr 41 10 (u.convs.map Conv.row),.arr 54 7 (u.nets.map Pk.row)] [.pv 0 1,.pa 1 k 6,.agg [.int .i64 p.kind,.int .i64 p.frm.a,.int .i64 p.frm.p,.int .i64 p.to.a,.int .i64 p.to.p,.int .i64 p.at_,.str p.text],.bool out] (goesW_down u m fs k p out):=by
  refine mP dg177 Tryz.ntmps177 ?_ ?_
  · cases hb:(put m (fs.getD k default).down p.at_ p.text out).2.2
    · exact ⟨_,_,.inl ⟨hb,rfl,rfl⟩⟩
    · exact ⟨_,_,.inr ⟨hb,rfl,rfl⟩⟩
  have hpa:=hp.at_
  have hpl:=hp.len
  have hpk:=put_ok (m:=m) (s:=(fs.getD k default).down) (n:=p.at_) (t:=p.text) (out:=out) hm hs htx hpa.1
  have sb:=strmOk_B hs
  obtain ⟨s1,s2,s3⟩:=sb
  have f0:=c188 m (fs.getD k default).down p.at_ p.text out ⟨hm,hs,hpa,hpl⟩
  have gs:∀ R,((fs.map Flw.row).set k R).getD k []=R:=fun R=>by simp [List.getD,hk]
  generalize hf:fs.getD k default=f at *
  simp only [ic177,go_sem,getD_mp hk,hf]
  with_reducible repeat' (first|refine br ?_ ?_<;>intro h e<;>(try simp only [e,go_sem,getD_mp hk,hf])<;>clear e|rw [i64w (by omega)]|refine sd ?_<;>try simp only [go_sem,getD_mp hk,hf]|fail)
  refine callR f0 rfl rfl ?_
  have hml:=(mapOk_ports hpk.1).2
  have sb:=strmOk_B hpk.2
  have so:=sOut_len sb
  have gr:∀ a b,forP (put m f.down p.at_ p.text out).2.1.parts p.at_=a→toR f.down (put m f.down p.at_ p.text out).2.1 p=b→goesR f.down (put m f.down p.at_ p.text out).2.1 p=({ p with at_:=a,text:=((sOut (put m f.down p.at_ p.text out).2.1).take (max b a).toNat).drop a.toNat },within (((sOut (put m f.down p.at_ p.text out).2.1).take (max b a).toNat).drop a.toNat).length 1 40):=fun a b ha hb=>by subst ha;subst hb;rfl
  have hto:toR f.down (put m f.down p.at_ p.text out).2.1 p=if f.down.inn.length<(put m f.down p.at_ p.text out).2.1.inn.length then ((sOut (put m f.down p.at_ p.text out).2.1).length:Int) else forP (put m f.down p.at_ p.text out).2.1.parts (min (p.at_+p.text.length) (put m f.down p.at_ p.text out).2.1.inn.length):=rfl
  have fo1:0≤forP (put m f.down p.at_ p.text out).2.1.parts p.at_∧forP (put m f.down p.at_ p.text out).2.1.parts p.at_≤(sOut (put m f.down p.at_ p.text out).2.1).length:=forP_le _
  have fo2:0≤forP (put m f.down p.at_ p.text out).2.1.parts (min (p.at_+p.text.length) f.down.inn.length)∧forP (put m f.down p.at_ p.text out).2.1.parts (min (p.at_+p.text.length) f.down.inn.length)≤(sOut (put m f.down p.at_ p.text out).2.1).length:=forP_le _
  have hinn:f.down.inn.length≤(put m f.down p.at_ p.text out).2.1.inn.length:=put_inn ..
  generalize hP:put m f.down p.at_ p.text out=P at *
  obtain ⟨m',s',ok⟩:=P
  simp only at hpk hml sb so gr hto fo1 fo2 hinn
  cases ok<;>simp only [go_sem]
  · with_reducible repeat' (first|refine br ?_ ?_<;>intro h e<;>(try simp only [e,go_sem])<;>clear e|rw [i64w (by omega)]|refine sd ?_<;>try simp only [go_sem]|fail)
    refine retN (.tup [.agg (Pk.row .zero),.bool false]) [.var 33 [.own 2 u.convs.length,.sl 3 (m.map Pair.row),.own 1 fs.length,.own 3 u.nets.length],.arr 46 8 (fs.map Flw.row),.arr 41 10 (u.convs.map Conv.row),.arr 54 7 (u.nets.map Pk.row)] [] ?_ (goesW_no_down hf hP) ?_ (by simp [argH,getN]) (by simp only [go_sem])
    · simp only [go_sem,Pk.zero,E.zero]
    · simp only [go_sem]
  have f1:=r126 (m'.map Pair.row) (by simp;omega)
  have f2:=c42 s' sb
  have f3:=c189 s' p.at_ sb (by omega)
  have f4:=c189 s' (min (p.at_+p.text.length) f.down.inn.length) sb (by omega)
  generalize hA:forP s'.parts p.at_=A at *
  generalize hB:forP s'.parts (min (p.at_+p.text.length) f.down.inn.length)=Bb at *
  with_reducible repeat' (first|refine br ?_ ?_<;>intro h e<;>(try simp only [e,go_sem,getD_mp hk,hf,gs])<;>clear e|rw [i64w (by omega)]|refine sd ?_<;>try simp only [go_sem,getD_mp hk,hf,gs]|(first|refine cr (f1 ..) ?_|refine cr (f2 ..) ?_|refine cr (f3 ..) ?_|refine cr (f4 ..) ?_|refine cr (c38 ..) ?_)<;>try simp only [go_sem,getD_mp hk,hf,gs]|fail)
  · have hto':toR f.down s' p=Bb:=by rw [hto,if_neg (by omega),← hB];congr 2
    have g:=gr A _ rfl hto'
    refine retN (.tup [.agg (Pk.row (goesR f.down s' p).1),.bool (goesR f.down s' p).2]) [.var 33 [.own 2 u.convs.length,.sl 3 (m'.map Pair.row),.own 1 fs.length,.own 3 u.nets.length],.arr 46 8 ((fs.set k { f with down:=s' }).map Flw.row),.arr 41 10 (u.convs.map Conv.row),.arr 54 7 (u.nets.map Pk.row)] [] ?_ (goesW_yes_down hf hP) ?_ (by simp [argH,getN]) (by simp only [go_sem])
    · simp only [g,go_sem]
    · simp only [go_sem,List.map_set]
  · have hto':toR f.down s' p=((sOut s').length:Int):=by rw [hto,if_pos (by omega)]
    have g:=gr A _ rfl hto'
    refine retN (.tup [.agg (Pk.row (goesR f.down s' p).1),.bool (goesR f.down s' p).2]) [.var 33 [.own 2 u.convs.length,.sl 3 (m'.map Pair.row),.own 1 fs.length,.own 3 u.nets.length],.arr 46 8 ((fs.set k { f with down:=s' }).map Flw.row),.arr 41 10 (u.convs.map Conv.row),.arr 54 7 (u.nets.map Pk.row)] [] ?_ (goesW_yes_down hf hP) ?_ (by simp [argH,getN]) (by simp only [go_sem])
    · simp only [g,go_sem]
    · simp only [go_sem,List.map_set]
def outW (u:M.World) (x:Door × Option Pk) (r:V) (o:List Hs):Prop :=
  ∃ q,r=.tup [.agg (Pk.row q),.bool x.2.isSome]∧(∀ q',x.2=some q'→q=q')∧o=[.var 33 [.own 2 u.convs.length,.sl 3 (x.1.map.map Pair.row),.own 1 x.1.flows.length,.own 3 u.nets.length],.arr 46 8 (x.1.flows.map Flw.row),.arr 41 10 (u.convs.map Conv.row),.arr 54 7 (u.nets.map Pk.row)]
theorem outW_no {u:M.World} {d:Door}:outW u (d,none) (.tup [.agg (Pk.row .zero),.bool false]) [.var 33 [.own 2 u.convs.length,.sl 3 (d.map.map Pair.row),.own 1 d.flows.length,.own 3 u.nets.length],.arr 46 8 (d.flows.map Flw.row),.arr 41 10 (u.convs.map Conv.row),.arr 54 7 (u.nets.map Pk.row)]:=⟨.zero,rfl,fun q h=>(by simp at h),rfl⟩
theorem outW_if {u:M.World} (d:Door) (q:Pk) (ok:Bool):outW u (d,if ok=true then some q else none) (.tup [.agg (Pk.row q),.bool ok]) [.var 33 [.own 2 u.convs.length,.sl 3 (d.map.map Pair.row),.own 1 d.flows.length,.own 3 u.nets.length],.arr 46 8 (d.flows.map Flw.row),.arr 41 10 (u.convs.map Conv.row),.arr 54 7 (u.nets.map Pk.row)] :=
  ⟨q,by cases ok<;>rfl,fun q' h=>by cases ok<;>simp at h;exact h,rfl⟩
theorem w160 (u:M.World) (d:Door) (p:Pk) (hd:doorOk d=true) (hp:PkP p):FnP Tryz.prog G 160 1 [.var 33 [.own 2 u.convs.length,.sl 3 (d.map.map Pair.row),.own 1 d.flows.length,.own 3 u.nets.length],.arr 46 8 (d.flows.map Flw.row),.arr 41 10 (u.convs.map Conv.row),.arr 54 7 (u.nets.map Pk.row)]
    [.pv 0 1,.agg [.int .i64 p.kind,.int .i64 p.frm.a,.int .i64 p.frm.p,.int .i64 p.to.a,.int .i64 p.to.p,.int .i64 p.at_,.str p.text]] (outW u (dIn d p)):=by
  refine mP dg160 Tryz.ntmps160 ?_ ?_
  · exact ⟨_,_,(dIn d p).2.getD .zero,rfl,fun q' h=>by rw [h];rfl,rfl⟩
  obtain ⟨hm,hfl,_⟩:=doorOk_iff.1 hd
  obtain ⟨hmp,hml⟩:=mapOk_ports hm
  have no:∀ l mm,dIn d p=(d,none)→getL l 4=.pv 1004 0→getL l 5=.bool false→getH mm 1004=.var 54 (Pk.row .zero)→getH mm 0=.var 33 [.own 2 u.convs.length,.sl 3 (d.map.map Pair.row),.own 1 d.flows.length,.own 3 u.nets.length]→getH mm 1=.arr 46 8 (d.flows.map Flw.row)→getH mm 2=.arr 41 10 (u.convs.map Conv.row)→getH mm 3=.arr 54 7 (u.nets.map Pk.row) →
      retQ [.cell 4 7 true,.t 5] 1 (outW u (dIn d p)) .ret ⟨getL l,getH mm⟩:=fun l mm hx h1 h2 h3 h4 h5 h6 h7=>by
    rw [hx]
    refine retN _ _ [] ?_ outW_no ?_ (by simp [argH,getN]) (by simp only [go_sem])
    · simp only [go_sem,h1,h2,h3]
    · simp only [go_sem,h4,h5,h6,h7]
  simp only [ic160,go_sem]
  have f0:=c139 d.map p.to.p (by omega)
  with_reducible repeat' (first|refine br ?_ ?_<;>intro h e<;>(try simp only [e,go_sem])<;>clear e|rw [i64w (by omega)]|refine sd ?_<;>try simp only [go_sem]|(first|refine cr (f0 ..) ?_)<;>try simp only [go_sem]|fail)
  cases hin:insideOf d.map p.to.p with
  | none =>
    simp only [go_sem,Option.isSome_none,Option.getD_none,E.zero]
    with_reducible repeat' (first|refine br ?_ ?_<;>intro h e<;>(try simp only [e,go_sem])<;>clear e|rw [i64w (by omega)]|refine sd ?_<;>try simp only [go_sem]|fail)
    refine callF (c39 (d.map.map Pair.row) d.flows ⟨0,0⟩ p.frm (by omega)) [1] false (by simp only [go_sem];first|done|simp [E.row,Pc.row,Pair.row,Part.row,Flw.row,Pk.row,Conv.row]) (by simp only [List.mem_singleton];rintro c rfl;rfl) rfl (.inr rfl) ?_
    simp only [go_sem]
    with_reducible repeat' (first|refine br ?_ ?_<;>intro h e<;>(try simp only [e,go_sem])<;>clear e|rw [i64w (by omega)]|refine sd ?_<;>try simp only [go_sem]|fail)
    exact no _ _ (dIn_no1 hin) (by simp only [go_sem]) (by simp only [go_sem]) (by simp only [go_sem,Pk.zero,E.zero]) (by simp only [go_sem]) (by simp only [go_sem]) (by simp only [go_sem]) (by simp only [go_sem])
  | some i =>
    simp only [go_sem,Option.isSome_some,Option.getD_some]
    with_reducible repeat' (first|refine br ?_ ?_<;>intro h e<;>(try simp only [e,go_sem])<;>clear e|rw [i64w (by omega)]|refine sd ?_<;>try simp only [go_sem]|fail)
    refine callF (c39 (d.map.map Pair.row) d.flows i p.frm (by omega)) [1] false (by simp only [go_sem];first|done|simp [E.row,Pc.row,Pair.row,Part.row,Flw.row,Pk.row,Conv.row]) (by simp only [List.mem_singleton];rintro c rfl;rfl) rfl (.inr rfl) ?_
    simp only [go_sem]
    cases hf:flowIx d.flows i p.frm with
    | none =>
      simp only [ixI,go_sem]
      with_reducible repeat' (first|refine br ?_ ?_<;>intro h e<;>(try simp only [e,go_sem])<;>clear e|rw [i64w (by omega)]|refine sd ?_<;>try simp only [go_sem]|fail)
      exact no _ _ (dIn_no2 hin hf) (by simp only [go_sem]) (by simp only [go_sem]) (by simp only [go_sem,Pk.zero,E.zero]) (by simp only [go_sem]) (by simp only [go_sem]) (by simp only [go_sem]) (by simp only [go_sem])
    | some k =>
      obtain ⟨hk,hke⟩:=dIn_yes hin hf
      rw [hke]
      have hg:d.flows.getD k default=Flw.at d k:=rfl
      have hfk:d.flows[k]?=some (Flw.at d k):=by simp [Flw.at,List.getD,hk]
      obtain ⟨_,_,x6,x7,_⟩:=flow_at hd hfk
      have s1:=strmOk_B x6
      have hpa:=hp.at_
      have hpl:=hp.len
      have f1:=c176 (Flw.at d k).up { p with to:=i } s1 (by simp only;omega)
      have hlt:¬ ((k:Int)<0):=by omega
      simp only [ixI,go_sem,eq_false hlt]
      with_reducible repeat' (first|refine br ?_ ?_<;>intro h e<;>(try simp only [e,go_sem,getD_mp hk,hg])<;>clear e|rw [i64w (by omega)]|refine sd ?_<;>try simp only [go_sem,getD_mp hk,hg]|(first|refine cr (f1 ..) ?_)<;>try simp only [go_sem,getD_mp hk,hg]|fail)
      · have hx:∀ b,(acksR (Flw.at d k).up { p with to:=i }).2=b→inK d k i p=(d,if b then some (acksR (Flw.at d k).up { p with to:=i }).1 else none):=fun b hb=>by
          subst hb
          have hk2:p.kind=2:=by assumption
          simp only [inK,acksR]
          rw [if_pos hk2]
          by_cases hc:p.at_>((sOut (Flw.at d k).up).length:Int)
          · rw [if_pos hc,if_pos hc];rfl
          · rw [if_neg hc,if_neg hc,hp.ack hk2,hk2];rfl
        generalize hA:acksR (Flw.at d k).up { p with to:=i }=A at *
        obtain ⟨q,ok⟩:=A
        have hx:=hx _ rfl
        simp only at hx
        rw [hx]
        refine retN (.tup [.agg (Pk.row q),.bool ok]) [.var 33 [.own 2 u.convs.length,.sl 3 (d.map.map Pair.row),.own 1 d.flows.length,.own 3 u.nets.length],.arr 46 8 (d.flows.map Flw.row),.arr 41 10 (u.convs.map Conv.row),.arr 54 7 (u.nets.map Pk.row)] [] ?_ ⟨q,by cases ok<;>rfl,fun q' h=>by cases ok<;>simp at h;exact h,rfl⟩ ?_ (by simp [argH,getN]) (by simp only [go_sem])
        · simp only [go_sem]
        · simp only [go_sem]
      have hk2:¬ p.kind=2:=by assumption
      have htx:=hp.tx.resolve_left hk2
      refine callN (w177down u d.map d.flows k { p with to:=i } false hm hk x7 ⟨hp.at_,hp.len,hp.tx,hp.ack,hp.kd⟩ htx) [0,1,2,3] [] true 60 4 (by simp only [go_sem];first|done|simp) (by simp only [go_sem];first|done|simp) (by simp) (by simp) (by simp) ?_ ?_ ?_
      · rintro res out (⟨_,rfl,rfl⟩|⟨_,rfl,rfl⟩)
        · exact ⟨by simp,by simp,.inl rfl,fun i hi=>by rcases (show i=0∨i=1∨i=2∨i=3 by omega) with rfl|rfl|rfl|rfl<;>simp [chH,stepOk]⟩
        · exact ⟨by simp,by simp,.inl rfl,fun i hi=>by rcases (show i=0∨i=1∨i=2∨i=3 by omega) with rfl|rfl|rfl|rfl<;>simp [chH,stepOk]⟩
      · intro i hi
        rcases (show i=0∨i=1∨i=2∨i=3 by omega) with rfl|rfl|rfl|rfl<;>simp only [go_sem]
      have hko:inK d k i p=if (put d.map (Flw.at d k).down p.at_ p.text false).2.2=false then (d,none)
          else (⟨d.map,d.flows.set k { Flw.at d k with down:=(put d.map (Flw.at d k).down p.at_ p.text false).2.1 }⟩,
            sendOn (Flw.at d k).down (put d.map (Flw.at d k).down p.at_ p.text false).2.1 { p with to:=i }):=by
        simp only [inK];rw [if_neg hk2,sendOn_to _ _ p i]
      have hpm:=put_mapF d.map (Flw.at d k).down p.at_ p.text
      rintro res out (⟨h,rfl,rfl⟩|⟨h,rfl,rfl⟩)
      all_goals
        simp only [hg] at h ⊢
        generalize hP:put d.map (Flw.at d k).down p.at_ p.text false=P at *
        obtain ⟨m',s',ok'⟩:=P
        simp only at h hko hpm
        subst h
        subst hpm
        simp only [go_sem]
      · rw [if_pos rfl] at hko
        rw [hko]
        with_reducible repeat' (first|refine br ?_ ?_<;>intro h e<;>(try simp only [e,go_sem])<;>clear e|rw [i64w (by omega)]|refine sd ?_<;>try simp only [go_sem]|fail)
        refine retN _ _ [] ?_ outW_no ?_ (by simp [argH,getN]) (by simp only [go_sem])
        · simp only [go_sem]
        · simp only [go_sem]
      · rw [if_neg (by simp),goesR_on] at hko
        rw [hko]
        with_reducible repeat' (first|refine br ?_ ?_<;>intro h e<;>(try simp only [e,go_sem])<;>clear e|rw [i64w (by omega)]|refine sd ?_<;>try simp only [go_sem]|fail)
        refine retN _ _ [] ?_ (outW_if ⟨d.map,d.flows.set k { Flw.at d k with down:=s' }⟩ _ _) ?_ (by simp [argH,getN]) (by simp only [go_sem])
        · simp only [go_sem]
        · simp only [go_sem,List.map_set,List.length_set]
def outX (u:M.World) (x:Door × Option Pk) (r:V) (o:List Hs):Prop:=∃ o',outW u x r o'∧∀ c,HsW (chH o c) (chH o' c)
theorem outX_of {u:M.World} {x:Door × Option Pk} {r:V} {o:List Hs} (h:outW u x r o):outX u x r o:=⟨o,h,fun c=>HsW.refl _⟩
theorem hsNewW (u:M.World) (M:List Pair) (fs:List Flw) (i o:E):∀ c,HsW (chH [.var 33 [.own 2 u.convs.length,.sl 3 (M.map Pair.row),.own 1 (fs++[Flw.mk i o .zero .zero]).length,.own 3 u.nets.length],.arr 46 8 (fs.map Flw.row++[[.int .i64 i.a,.int .i64 i.p,.int .i64 o.a,.int .i64 o.p,.str [],.nils,.str [],.nils]]),.arr 41 10 (u.convs.map Conv.row),.arr 54 7 (u.nets.map Pk.row)] c)
    (chH [.var 33 [.own 2 u.convs.length,.sl 3 (M.map Pair.row),.own 1 (fs++[Flw.mk i o .zero .zero]).length,.own 3 u.nets.length],.arr 46 8 ((fs++[Flw.mk i o .zero .zero]).map Flw.row),.arr 41 10 (u.convs.map Conv.row),.arr 54 7 (u.nets.map Pk.row)] c)
  | 0=>rfl
  | 1=>⟨rfl,rfl,rowsNew fs i o⟩
  | 2=>HsW.refl _
  | 3=>HsW.refl _
  | n+4=>rfl
theorem w159 (u:M.World) (d:Door) (p:Pk) (hd:doorOk d=true) (hp:PkP p) (hi:p.frm.inside=true) (ho:p.to.outside=true):FnP Tryz.prog G 159 1 [.var 33 [.own 2 u.convs.length,.sl 3 (d.map.map Pair.row),.own 1 d.flows.length,.own 3 u.nets.length],.arr 46 8 (d.flows.map Flw.row),.arr 41 10 (u.convs.map Conv.row),.arr 54 7 (u.nets.map Pk.row)]
    [.pv 0 1,.agg [.int .i64 p.kind,.int .i64 p.frm.a,.int .i64 p.frm.p,.int .i64 p.to.a,.int .i64 p.to.p,.int .i64 p.at_,.str p.text]] (outW u (dOut d p)):=by
  refine FnP.rowsOut (post:=outX u (dOut d p)) ?_ fun r o h=>h
  refine mP dg159 Tryz.ntmps159 ?_ ?_
  · exact ⟨_,_,outX_of ⟨(dOut d p).2.getD .zero,rfl,fun q' h=>by rw [h];rfl,rfl⟩⟩
  obtain ⟨hm,hfl,_⟩:=doorOk_iff.1 hd
  obtain ⟨hmp,hml⟩:=mapOk_ports hm
  have hyes:=fun ok=>openR_ok hd hi ho ok
  have hout:=fun ok=>dOut_yes (p:=p) ok (hyes ok).kl
  have hno:=fun ok=>dOut_no (d:=d) (p:=p) ok
  simp only [ic159,go_sem]
  with_reducible repeat' (first|refine br ?_ ?_<;>intro h e<;>(try simp only [e,go_sem])<;>clear e|rw [i64w (by omega)]|refine sd ?_<;>try simp only [go_sem]|fail)
  refine callF (c39 (d.map.map Pair.row) d.flows p.frm p.to (by omega)) [1] false (by simp only [go_sem];first|done|simp [E.row,Pc.row,Pair.row,Part.row,Flw.row,Pk.row,Conv.row]) (by simp only [List.mem_singleton];rintro c rfl;rfl) rfl (.inr rfl) ?_
  simp only [go_sem]
  cases hf:flowIx d.flows p.frm p.to with
  | some k =>
    have hop:=openF_has hf
    rw [hop] at hyes hout hno
    have hlt:¬ ((k:Int)<0):=by omega
    simp only [ixI,go_sem,eq_false hlt]
    obtain ⟨x1,x2,x3,x4,x5,x6,x7,x8⟩:=hyes rfl
    have hout:=hout rfl
    simp only at x1 x2 x3 x4 x5 x6 x7 x8 hout
    rw [hout]
    have hg:d.flows.getD k default=Flw.at d k:=rfl
    rw [hg] at x6 x7
    have s2:=strmOk_B x7
    have hpa:=hp.at_
    have hpl:=hp.len
    have f0:=c92 d.map p.frm.a p.frm.p (by omega)
    have f1:=c176 (Flw.at d k).down { p with frm:=⟨9,portOf d.map p.frm⟩ } s2 (by simp only;omega)
    with_reducible repeat' (first|refine br ?_ ?_<;>intro h e<;>(try simp only [e,go_sem,getD_mp x4,hg])<;>clear e|rw [i64w (by omega)]|refine sd ?_<;>try simp only [go_sem,getD_mp x4,hg]|(first|refine cr (f0 ..) ?_|refine cr (f1 ..) ?_)<;>try simp only [go_sem,getD_mp x4,hg]|fail)
    · have hx:∀ b,(acksR (Flw.at d k).down { p with frm:=⟨9,portOf d.map p.frm⟩ }).2=b→outK d k p=(d,if b then some (acksR (Flw.at d k).down { p with frm:=⟨9,portOf d.map p.frm⟩ }).1 else none):=fun b hb=>by
        subst hb
        have hk2:p.kind=2:=by assumption
        simp only [outK,acksR]
        rw [if_pos hk2]
        by_cases hc:p.at_>((sOut (Flw.at d k).down).length:Int)
        · rw [if_pos hc,if_pos hc];rfl
        · rw [if_neg hc,if_neg hc,hp.ack hk2,hk2];rfl
      generalize hA:acksR (Flw.at d k).down { p with frm:=⟨9,portOf d.map p.frm⟩ }=A at *
      obtain ⟨q,ok⟩:=A
      have hx:=hx _ rfl
      simp only at hx
      rw [hx]
      refine retN _ _ [] ?_ (outX_of (outW_if d q ok)) ?_ (by simp [argH,getN]) (by simp only [go_sem])
      · simp only [go_sem]
      · simp only [go_sem]
    have hk2:¬ p.kind=2:=by assumption
    have htx:=hp.tx.resolve_left hk2
    refine callN (w177up u d.map d.flows k { p with frm:=⟨9,portOf d.map p.frm⟩ } true hm x4 x6 ⟨hp.at_,hp.len,hp.tx,hp.ack,hp.kd⟩ htx) [0,1,2,3] [] true 98 4 (by simp only [go_sem];first|done|simp) (by simp only [go_sem];first|done|simp) (by simp) (by simp) (by simp) ?_ ?_ ?_
    · rintro res out (⟨_,rfl,rfl⟩|⟨_,rfl,rfl⟩)
      · exact ⟨by simp,by simp,.inl rfl,fun i hi=>by rcases (show i=0∨i=1∨i=2∨i=3 by omega) with rfl|rfl|rfl|rfl<;>simp [chH,stepOk]⟩
      · exact ⟨by simp,by simp,.inl rfl,fun i hi=>by rcases (show i=0∨i=1∨i=2∨i=3 by omega) with rfl|rfl|rfl|rfl<;>simp [chH,stepOk]⟩
    · intro i hi
      rcases (show i=0∨i=1∨i=2∨i=3 by omega) with rfl|rfl|rfl|rfl<;>simp only [go_sem]
    have hko:outK d k p=if (put d.map (Flw.at d k).up p.at_ p.text true).2.2=false then (d,none)
        else (⟨(put d.map (Flw.at d k).up p.at_ p.text true).1,d.flows.set k { Flw.at d k with up:=(put d.map (Flw.at d k).up p.at_ p.text true).2.1 }⟩,
          sendOn (Flw.at d k).up (put d.map (Flw.at d k).up p.at_ p.text true).2.1 { p with frm:=⟨9,portOf d.map p.frm⟩ }):=by
      simp only [outK];rw [if_neg hk2,sendOn_frm _ _ p ⟨9,portOf d.map p.frm⟩]
    rintro res out (⟨h,rfl,rfl⟩|⟨h,rfl,rfl⟩)
    all_goals
      simp only [hg] at h ⊢
      generalize hP:put d.map (Flw.at d k).up p.at_ p.text true=P at *
      obtain ⟨m',s',ok'⟩:=P
      simp only at h hko
      subst h
      simp only [go_sem]
    · rw [if_pos rfl] at hko
      rw [hko]
      with_reducible repeat' (first|refine br ?_ ?_<;>intro h e<;>(try simp only [e,go_sem])<;>clear e|rw [i64w (by omega)]|refine sd ?_<;>try simp only [go_sem]|fail)
      refine retN _ _ [] ?_ (outX_of outW_no) ?_ (by simp [argH,getN]) (by simp only [go_sem])
      · simp only [go_sem]
      · simp only [go_sem]
    · rw [if_neg (by simp),goesR_on] at hko
      rw [hko]
      with_reducible repeat' (first|refine br ?_ ?_<;>intro h e<;>(try simp only [e,go_sem])<;>clear e|rw [i64w (by omega)]|refine sd ?_<;>try simp only [go_sem]|fail)
      refine retN _ _ [] ?_ (outX_of (outW_if ⟨m',d.flows.set k { Flw.at d k with up:=s' }⟩ _ _)) ?_ (by simp [argH,getN]) (by simp only [go_sem])
      · simp only [go_sem]
      · simp only [go_sem,List.map_set,List.length_set]
  | none =>
    simp only [ixI,go_sem]
    with_reducible repeat' (first|refine br ?_ ?_<;>intro h e<;>(try simp only [e,go_sem])<;>clear e|rw [i64w (by omega)]|refine sd ?_<;>try simp only [go_sem]|fail)
    have f9:=c137 d.map p.frm.a p.frm.p hmp (by omega)
    have no:∀ l mm,dOut d p=(d,none)→getL l 4=.pv 1004 0→getL l 5=.bool false→getH mm 1004=.var 54 (Pk.row .zero)→getH mm 0=.var 33 [.own 2 u.convs.length,.sl 3 (d.map.map Pair.row),.own 1 d.flows.length,.own 3 u.nets.length]→getH mm 1=.arr 46 8 (d.flows.map Flw.row)→getH mm 2=.arr 41 10 (u.convs.map Conv.row)→getH mm 3=.arr 54 7 (u.nets.map Pk.row) →
        retQ [.cell 4 7 true,.t 5] 1 (outX u (dOut d p)) .ret ⟨getL l,getH mm⟩:=fun l mm hx h1 h2 h3 h4 h5 h6 h7=>by
      rw [hx]
      refine retN _ _ [] ?_ (outX_of outW_no) ?_ (by simp [argH,getN]) (by simp only [go_sem])
      · simp only [go_sem,h1,h2,h3]
      · simp only [go_sem,h4,h5,h6,h7]
    refine callR f9 rfl rfl ?_
    simp only [go_sem]
    cases hok:(mOut d.map p.frm).2.2 with
    | false =>
      rw [openF_no hf hok] at hno
      simp only [go_sem]
      with_reducible repeat' (first|refine br ?_ ?_<;>intro h e<;>(try simp only [e,go_sem])<;>clear e|rw [i64w (by omega)]|refine sd ?_<;>try simp only [go_sem]|fail)
      exact no _ _ (hno rfl) (by simp only [go_sem]) (by simp only [go_sem]) (by simp only [go_sem,Pk.zero,E.zero]) (by simp only [go_sem]) (by simp only [go_sem]) (by simp only [go_sem]) (by simp only [go_sem])
    | true =>
      simp only [go_sem]
      with_reducible repeat' (first|refine br ?_ ?_<;>intro h e<;>(try simp only [e,go_sem])<;>clear e|rw [i64w (by omega)]|refine sd ?_<;>try simp only [go_sem]|fail)
      · rw [openF_full hf (by omega)] at hno
        exact no _ _ (hno rfl) (by simp only [go_sem]) (by simp only [go_sem]) (by simp only [go_sem,Pk.zero,E.zero]) (by simp only [go_sem]) (by simp only [go_sem]) (by simp only [go_sem]) (by simp only [go_sem])
      rw [openF_new hf hok (by omega)] at hyes hout
      obtain ⟨x1,x2,x3,x4,x5,x6,x7,x8⟩:=hyes rfl
      have hout:=hout rfl
      simp only at x1 x2 x3 x4 x5 x6 x7 x8 hout
      rw [hout]
      have hm2:=(mapOk_ports x1).2
      have hpa:=hp.at_
      have hpl:=hp.len
      have hg:Flw.at ⟨(mOut d.map p.frm).1,d.flows++[Flw.mk p.frm p.to .zero .zero]⟩ d.flows.length=Flw.mk p.frm p.to .zero .zero:=by simp [Flw.at,List.getD]
      have hx:∀ R:List V,((d.flows.map Flw.row)++[R]).getD d.flows.length []=R:=fun R=>getD_last _ _ (by simp) _
      have f0:=c92 (mOut d.map p.frm).1 p.frm.a p.frm.p (by omega)
      generalize hM:(mOut d.map p.frm).1=M at *
      with_reducible repeat' (first|refine br ?_ ?_<;>intro h e<;>(try simp only [e,go_sem,hx])<;>clear e|rw [i64w (by omega)]|refine sd ?_<;>try simp only [go_sem,hx]|(first|refine cr (f0 ..) ?_)<;>try simp only [go_sem,hx]|fail)
      all_goals
        refine effG (by simp only [List.length_append,List.length_map,List.length_cons,List.length_nil];omega) ?_
        simp only [go_sem,hx]
        with_reducible repeat' (first|refine br ?_ ?_<;>intro h e<;>(try simp only [e,go_sem,hx])<;>clear e|rw [i64w (by omega)]|refine sd ?_<;>try simp only [go_sem,hx]|fail)
      · have f1:=c176 .zero { p with frm:=⟨9,portOf M p.frm⟩ } (strmOk_B strmOk_zero) (by simp only;omega)
        refine callF f1 [] true (by simp only [go_sem,Strm.zero]) (by simp) rfl (.inl rfl) ?_
        simp only [go_sem]
        with_reducible repeat' (first|refine br ?_ ?_<;>intro h e<;>(try simp only [e,go_sem,hx])<;>clear e|rw [i64w (by omega)]|refine sd ?_<;>try simp only [go_sem,hx]|fail)
        have hx2:∀ b,(acksR .zero { p with frm:=⟨9,portOf M p.frm⟩ }).2=b→outK ⟨M,d.flows++[Flw.mk p.frm p.to .zero .zero]⟩ d.flows.length p=(⟨M,d.flows++[Flw.mk p.frm p.to .zero .zero]⟩,if b then some (acksR .zero { p with frm:=⟨9,portOf M p.frm⟩ }).1 else none):=fun b hb=>by
          subst hb
          have hk2:p.kind=2:=by assumption
          simp only [outK,acksR,hg]
          rw [if_pos hk2]
          by_cases hc:p.at_>((sOut .zero).length:Int)
          · rw [if_pos hc,if_pos hc];rfl
          · rw [if_neg hc,if_neg hc,hp.ack hk2,hk2];rfl
        generalize hA:acksR .zero { p with frm:=⟨9,portOf M p.frm⟩ }=A at *
        obtain ⟨q,ok⟩:=A
        have hx2:=hx2 _ rfl
        simp only at hx2
        rw [hx2]
        refine retN _ _ [(1,1062)] ?_ ⟨_,outW_if ⟨M,d.flows++[Flw.mk p.frm p.to .zero .zero]⟩ q ok,hsNewW u M d.flows p.frm p.to⟩ ?_ (by simp [argH,getN]) (by simp only [go_sem])
        · simp only [go_sem]
        · simp only [go_sem];simp
      have hk2:¬ p.kind=2:=by assumption
      have htx:=hp.tx.resolve_left hk2
      refine callN (FnP.rowsIn (w177up u M (d.flows++[Flw.mk p.frm p.to .zero .zero]) d.flows.length { p with frm:=⟨9,portOf M p.frm⟩ } true x1 x4 x6 ⟨hp.at_,hp.len,hp.tx,hp.ack,hp.kd⟩ htx) (hsNewW u M d.flows p.frm p.to)) [0,1062,2,3] [] true 98 4 (by simp only [go_sem];first|done|simp) (by simp only [go_sem];first|done|simp) (by simp) (by simp) (by simp) ?_ ?_ ?_
      · rintro res out (⟨_,rfl,rfl⟩|⟨_,rfl,rfl⟩)
        · exact ⟨by simp,by simp,.inl rfl,fun i hi=>by rcases (show i=0∨i=1∨i=2∨i=3 by omega) with rfl|rfl|rfl|rfl<;>simp [chH,stepOk]⟩
        · exact ⟨by simp,by simp,.inl rfl,fun i hi=>by rcases (show i=0∨i=1∨i=2∨i=3 by omega) with rfl|rfl|rfl|rfl<;>simp [chH,stepOk]⟩
      · intro i hi
        rcases (show i=0∨i=1∨i=2∨i=3 by omega) with rfl|rfl|rfl|rfl<;>simp only [go_sem]
      have hgd:(d.flows++[Flw.mk p.frm p.to .zero .zero]).getD d.flows.length default=Flw.mk p.frm p.to .zero .zero:=hg
      have hko:outK ⟨M,d.flows++[Flw.mk p.frm p.to .zero .zero]⟩ d.flows.length p=if (put M .zero p.at_ p.text true).2.2=false then (⟨M,d.flows++[Flw.mk p.frm p.to .zero .zero]⟩,none)
          else (⟨(put M .zero p.at_ p.text true).1,(d.flows++[Flw.mk p.frm p.to .zero .zero]).set d.flows.length { Flw.mk p.frm p.to .zero .zero with up:=(put M .zero p.at_ p.text true).2.1 }⟩,
            sendOn .zero (put M .zero p.at_ p.text true).2.1 { p with frm:=⟨9,portOf M p.frm⟩ }):=by
        simp only [outK,hg];rw [if_neg hk2,sendOn_frm _ _ p ⟨9,portOf M p.frm⟩]
      rintro res out (⟨h,rfl,rfl⟩|⟨h,rfl,rfl⟩)
      all_goals
        simp only [hgd] at h ⊢
        generalize hP:put M .zero p.at_ p.text true=P at *
        obtain ⟨m',s',ok'⟩:=P
        simp only at h hko
        subst h
        simp only [go_sem]
      · rw [if_pos rfl] at hko
        rw [hko]
        with_reducible repeat' (first|refine br ?_ ?_<;>intro h e<;>(try simp only [e,go_sem])<;>clear e|rw [i64w (by omega)]|refine sd ?_<;>try simp only [go_sem]|fail)
        refine retN _ _ [(1,1062)] ?_ (outX_of outW_no) ?_ (by simp [argH,getN]) (by simp only [go_sem])
        · simp only [go_sem]
        · simp only [go_sem]
      · rw [if_neg (by simp),goesR_on] at hko
        rw [hko]
        with_reducible repeat' (first|refine br ?_ ?_<;>intro h e<;>(try simp only [e,go_sem])<;>clear e|rw [i64w (by omega)]|refine sd ?_<;>try simp only [go_sem]|fail)
        refine retN _ _ [(1,1062)] ?_ (outX_of (outW_if ⟨m',(d.flows++[Flw.mk p.frm p.to .zero .zero]).set d.flows.length { Flw.mk p.frm p.to .zero .zero with up:=s' }⟩ _ _)) ?_ (by simp [argH,getN]) (by simp only [go_sem])
        · simp only [go_sem]
        · simp only [go_sem,List.map_set,List.length_set]
theorem w122 (u:M.World) (d:Door) (p:Pk) (hd:doorOk d=true) (hp:PkP p):FnP Tryz.prog G 122 1 [.var 33 [.own 2 u.convs.length,.sl 3 (d.map.map Pair.row),.own 1 d.flows.length,.own 3 u.nets.length],.arr 46 8 (d.flows.map Flw.row),.arr 41 10 (u.convs.map Conv.row),.arr 54 7 (u.nets.map Pk.row)]
    [.pv 0 1,.agg [.int .i64 p.kind,.int .i64 p.frm.a,.int .i64 p.frm.p,.int .i64 p.to.a,.int .i64 p.to.p,.int .i64 p.at_,.str p.text]] (outW u (dPass d p)):=by
  refine mP dg122 Tryz.ntmps122 ?_ ?_
  · exact ⟨_,_,(dPass d p).2.getD .zero,rfl,fun q' h=>by rw [h];rfl,rfl⟩
  have b1:=c158 p
  have b2:=c73 p
  simp only [ic122,go_sem]
  with_reducible repeat' (first|refine br ?_ ?_<;>intro h e<;>(try simp only [e,go_sem])<;>clear e|rw [i64w (by omega)]|refine sd ?_<;>try simp only [go_sem]|(first|refine cr (b1 ..) ?_|refine cr (b2 ..) ?_)<;>try simp only [go_sem]|fail)
  · have hx:dPass d p=dOut d p:=by simp_all [dPass]
    rw [hx]
    have hio:p.frm.inside=true∧p.to.outside=true:=by simp_all [Pk.outward]
    refine callN (w159 u d p hd hp hio.1 hio.2) [0,1,2,3] [] true 11 4 (by simp only [go_sem];first|done|simp) (by simp only [go_sem];first|done|simp) (by simp) (by simp) (by simp) ?_ ?_ ?_
    · rintro res out ⟨q,rfl,hq,rfl⟩
      exact ⟨by simp,by simp,.inl rfl,fun i hi=>by obtain rfl:i=0:=(by omega);simp [chH,stepOk]⟩
    · intro i hi
      rcases (show i=0∨i=1∨i=2∨i=3 by omega) with rfl|rfl|rfl|rfl<;>simp only [go_sem]
    rintro res out ⟨q,rfl,hq,rfl⟩
    simp only [go_sem]
    refine retN _ _ [(1,101101),(2,101102),(3,101103)] ?_ ⟨q,rfl,hq,rfl⟩ ?_ (by simp [argH,getN]) (by simp only [go_sem])
    · simp only [go_sem]
    · simp only [go_sem]
  · have hx:dPass d p=dIn d p:=by simp_all [dPass]
    rw [hx]
    refine callN (w160 u d p hd hp) [0,1,2,3] [] true 19 4 (by simp only [go_sem];first|done|simp) (by simp only [go_sem];first|done|simp) (by simp) (by simp) (by simp) ?_ ?_ ?_
    · rintro res out ⟨q,rfl,hq,rfl⟩
      exact ⟨by simp,by simp,.inl rfl,fun i hi=>by obtain rfl:i=0:=(by omega);simp [chH,stepOk]⟩
    · intro i hi
      rcases (show i=0∨i=1∨i=2∨i=3 by omega) with rfl|rfl|rfl|rfl<;>simp only [go_sem]
    rintro res out ⟨q,rfl,hq,rfl⟩
    simp only [go_sem]
    refine retN _ _ [(1,101901),(2,101902),(3,101903)] ?_ ⟨q,rfl,hq,rfl⟩ ?_ (by simp [argH,getN]) (by simp only [go_sem])
    · simp only [go_sem]
    · simp only [go_sem]
  · have hx:dPass d p=(d,none):=by simp_all [dPass]
    rw [hx]
    refine retN _ _ [] ?_ outW_no ?_ (by simp [argH,getN]) (by simp only [go_sem])
    · simp only [go_sem,Pk.zero,E.zero]
    · simp only [go_sem]
def ic119:IC:=sR [oP 2 (.mv (.c (.bool false)))] (sR [mV 3 0,oP 4 (.lens (.t 3)),oP 5 (.bin .leq (.t 4) (.c (.int .i64 24))),mV 6 5,⟨some 7,some (6,true),.mv (.t 0)⟩,⟨some 8,some (6,true),.call 44 [.t 7]⟩,oP 9 (.pick (.t 6) (.t 8) (.c (.bool false))),mV 10 9,⟨some 11,some (10,true),.mv (.t 0)⟩,⟨some 12,some (10,true),.call 96 [.t 11]⟩,⟨some 13,some (10,true),.bin .eql (.t 12) (.c i0)⟩,oP 14 (.pick (.t 10) (.t 13) (.c (.bool false))),mV 2 14] .ret)
theorem dg119:Dg Tryz.prog 119 Tryz.f119 ic119 [(.t 2)]:=⟨Tryz.func119,by kernel_rfl,by kernel_rfl⟩
theorem c119 (t:B) (hl:t.length≤2000000):FnR Tryz.prog G 119 [.str t] (.bool (saying t)):=by
  refine mF dg119 Tryz.ntmps119 ?_
  simp only [ic119,go_sem]
  have c1:=c44 t hl
  have c2:=c96 t hl
  with_reducible repeat' (first|refine br ?_ ?_<;>intro h e<;>(try simp only [e,go_sem])<;>clear e|rw [i64w (by omega)]|refine sd ?_<;>try simp only [go_sem]|(first|refine cr (c1 ..) ?_|refine cr (c2 ..) ?_)<;>try simp only [go_sem]|fail)
  all_goals simp_all [saying]
  all_goals omega
theorem findIdx_no {α:Type} {P:α→Bool} {l:List α} (h:l.any P=false):l.findIdx? P=none:=List.findIdx?_eq_none_iff.2 fun x hx=>by simpa using List.any_eq_false.1 h x hx
theorem findIdx_yes {α:Type} {P:α→Bool} {l:List α} {k:Nat} (hk:k<l.length) (h:(l.take k).any P=false) (hp:P l[k]=true):l.findIdx? P=some k:=by
  refine List.findIdx?_eq_some_iff_getElem.2 ⟨hk,hp,fun j hj=>?_⟩
  have:=List.any_eq_false.1 h l[j] (List.mem_iff_getElem?.2 ⟨j,by rw [List.getElem?_take,if_pos hj];exact List.getElem?_eq_getElem _⟩)
  simpa using this
theorem any_step {α:Type} {P:α→Bool} {l:List α} {k:Nat} (hk:k<l.length) (h:(l.take k).any P=false) (hp:P l[k]=false):(l.take (k+1)).any P=false:=by
  rw [List.take_add_one,List.getElem?_eq_getElem hk]
  simp only [Option.toList_some,List.any_append,h,List.any_cons,List.any_nil,Bool.or_false,Bool.false_or,hp]
theorem ixI_any {α:Type} {P:α→Bool} {l:List α}:decide (0≤ixI (l.findIdx? P))=l.any P:=by
  cases h:l.any P with
  | false=>rw [findIdx_no h];rfl
  | true =>
    obtain ⟨x,hx,hp⟩:=List.any_eq_true.1 h
    cases hf:l.findIdx? P with
    | none=>have:=List.findIdx?_eq_none_iff.1 hf x hx;rw [hp] at this;cases this
    | some k=>simp [ixI]
def ic155:IC:=sR [oP 4 (.mv (.c i0))] (.seq (sR [mV 6 0,oP 7 (.len (.t 6)),oP 8 (.mv (.c i0))] (.block 0 (.loop (sR [bN 9 .lss 8 7] (.seq (.cond (.t 9) .skip (.exit 0)) (.seq (.block 1 (sR [mV 10 8,mV 5 10] (sR [mV 11 1,mV 12 0,mV 13 5,oP 14 (.iad 2 (.t 12) (.t 13)),lA 15 2 14,oP 16 (.cal (.t 11) [.t 15])] (.cond (.t 16) (sR [mV 17 5,mV 4 17] .ret) .skip)))) (.reg [oP 18 (.bin .add (.t 8) (.c (.int .i64 1))),mV 8 18]))))))) (sR [oP 4 (.mv (.c (.int .i64 (-1))))] .ret))
theorem dg155:Dg Tryz.prog 155 Tryz.f155 ic155 [(.t 4)]:=⟨Tryz.func155,by kernel_rfl,by kernel_rfl⟩
theorem c155 (l:List E) (hl:l.length≤2000000):FnR Tryz.prog G 155 [.sl 2 (l.map E.row),.fn 115 []] (.int .i64 (ixI (l.findIdx? E.door))):=by
  refine mF dg155 Tryz.ntmps155 ?_
  simp only [ic155,go_sem]
  refine loopN (fun k:Nat=>⟨getL [(0,.sl 2 (l.map E.row)),(1,.fn 115 []),(7,.int .i64 l.length),(8,.int .i64 (k:Int))],getH []⟩) (fun k=>l.length - k)
    (fun k=>k≤l.length∧(l.take k).any E.door=false) 0 (leQ []) ⟨Nat.zero_le _,by simp⟩ ?_
  intro k ⟨hk,ha⟩
  simp only [go_sem]
  by_cases h:(k:Int)<l.length
  · have hil:k<l.length:=by omega
    have hg:l.getD k default=l[k]:=by simp [List.getD,hil]
    have hy:=findIdx_yes hil ha
    have hs:=any_step hil ha
    simp only [eq_true h,go_sem]
    with_reducible repeat' (first|refine br ?_ ?_<;>intro h e<;>(try simp only [e,go_sem,hg])<;>clear e|rw [i64w (by omega)]|refine sd ?_<;>try simp only [go_sem,hg]|(first|refine cr (c115 ..) ?_)<;>try simp only [go_sem,hg]|fail)
    · rw [hy (by assumption)];rfl
    · exact ⟨k+1,by omega,⟨by omega,hs (by assumption)⟩,(leQ [])⟩
  · simp only [eq_false h,go_sem]
    have:k=l.length:=by omega
    subst this
    rw [List.take_length] at ha
    rw [findIdx_no ha];rfl
def ic120:IC:=sR [oP 4 (.mv (.c (.bool false)))] (sR [mV 5 0,mV 6 1,oP 7 (.call 155 [.t 5,.t 6]),oP 8 (.bin .geq (.t 7) (.c i0)),mV 4 8] .ret)
theorem dg120:Dg Tryz.prog 120 Tryz.f120 ic120 [(.t 4)]:=⟨Tryz.func120,by kernel_rfl,by kernel_rfl⟩
theorem c120 (l:List E) (hl:l.length≤2000000):FnR Tryz.prog G 120 [.sl 2 (l.map E.row),.fn 115 []] (.bool (l.any E.door)):=by
  refine mF dg120 Tryz.ntmps120 ?_
  simp only [ic120,go_sem]
  refine callR (c155 l hl) rfl rfl ?_
  simp only [go_sem,ixI_any]
theorem names_2m {t:B} (hl:t.length≤2000000):(textNames t).length≤2000000:=by
  have h1:=textPieces_len t
  have h2:=names_le (textPieces t)
  unfold textNames;omega
def ic66:IC:=sR [oP 4 (.box 39 (.t 0)),oP 5 (.box 39 (.t 1)),oP 8 (.alloc 41 [i0,i0,i0,i0,s0,s0,i0,i0,s0,s0]),oP 9 (.mv (.c (.bool false)))] (.seq (sR [lA 10 2 4,oP 11 (.call 91 [.t 10]),oP 12 (.un .not (.t 11)),mV 13 12,⟨some 14,some (13,false),.ld 2 true (.t 5)⟩,⟨some 15,some (13,false),.call 112 [.t 14]⟩,⟨some 16,some (13,false),.un .not (.t 15)⟩,oP 17 (.pick (.t 13) (.c (.bool true)) (.t 16)),mV 18 17,⟨some 19,some (18,false),.mv (.t 2)⟩,⟨some 20,some (18,false),.call 119 [.t 19]⟩,⟨some 21,some (18,false),.un .not (.t 20)⟩,oP 22 (.pick (.t 18) (.c (.bool true)) (.t 21)),mV 23 22,⟨some 24,some (23,false),.mv (.t 3)⟩,⟨some 25,some (23,false),.call 119 [.t 24]⟩,⟨some 26,some (23,false),.un .not (.t 25)⟩,oP 27 (.pick (.t 23) (.c (.bool true)) (.t 26)),mV 28 27,⟨some 29,some (28,false),.mv (.t 2)⟩,⟨some 30,some (28,false),.call 121 [.t 29]⟩,⟨some 31,some (28,false),.call 120 [.t 30,.c (.fn 115 [])]⟩,oP 32 (.pick (.t 28) (.c (.bool true)) (.t 31))] (.cond (.t 32) (sR [oP 33 (.build [i0,i0,i0,i0,s0,s0,i0,i0,s0,s0] []),nP (.sto 10 (.t 8) (.t 33)),oP 9 (.mv (.c (.bool false)))] .ret) .skip)) (sR [lA 34 2 4,lA 35 2 5,mV 36 2,mV 37 3,oP 38 (.build [i0,i0,i0,i0,s0,s0,i0,i0,s0,s0] [(0,(2,.t 34)),(2,(2,.t 35)),(4,(1,.t 36)),(5,(1,.t 37))]),nP (.sto 10 (.t 8) (.t 38)),oP 9 (.mv (.c (.bool true)))] .ret))
theorem dg66:Dg Tryz.prog 66 Tryz.f66 ic66 [(.cell 8 10 true),(.t 9)]:=⟨Tryz.func66,by kernel_rfl,by kernel_rfl⟩
theorem c66 (i o:E) (up down:B) (h1:up.length≤2000000) (h2:down.length≤2000000):FnR Tryz.prog G 66 [.agg [.int .i64 i.a,.int .i64 i.p],.agg [.int .i64 o.a,.int .i64 o.p],.str up,.str down]
    (.tup [.agg (Conv.row ((convNew i o up down).getD .zero)),.bool (convNew i o up down).isSome]):=by
  refine mF dg66 Tryz.ntmps66 ?_
  simp only [ic66,go_sem]
  have c1:=c119 up h1
  have c2:=c119 down h2
  have c3:=c121 up h1
  have c4:=c120 (textNames up) (names_2m h1)
  have ho:ownT up=!(textNames up).any E.door:=rfl
  generalize (textNames up).any E.door=nd at *
  with_reducible repeat' (first|refine br ?_ ?_<;>intro h e<;>(try simp only [e,go_sem])<;>clear e|rw [i64w (by omega)]|refine sd ?_<;>try simp only [go_sem]|(first|refine cr (c91 ..) ?_|refine cr (c112 ..) ?_|refine cr (c1 ..) ?_|refine cr (c2 ..) ?_|refine cr (c3 ..) ?_|refine cr (c4 ..) ?_)<;>try simp only [go_sem]|fail)
  all_goals simp_all [convNew,Conv.zero,E.zero]
def ic60:IC:=sR [oP 1 (.box 41 (.t 0)),oP 2 (.mv (.c (.bool false)))] (sR [fD 6 0 1,lA 7 2 6,fD 8 2 1,lA 9 2 8,fD 10 4 1,lD 11 1 10,fD 12 5 1,lD 13 1 12,oP 14 (.call 66 [.t 7,.t 9,.t 11,.t 13]),mV 5 14,eX 15 5 0,eX 16 5 1,oP 3 (.alloc 41 [i0,i0,i0,i0,s0,s0,i0,i0,s0,s0]),nP (.sto 10 (.t 3) (.t 15)),mV 4 16] (sR [mV 17 4,mV 18 17,⟨some 19,some (18,true),.fad 6 (.t 1)⟩,⟨some 20,some (18,true),.ld 1 false (.t 19)⟩,⟨some 21,some (18,true),.fad 4 (.t 1)⟩,⟨some 22,some (18,true),.ld 1 false (.t 21)⟩,⟨some 23,some (18,true),.lens (.t 22)⟩,⟨some 24,some (18,true),.call 38 [.t 20,.c i0,.t 23]⟩,oP 25 (.pick (.t 18) (.t 24) (.c (.bool false))),mV 26 25,⟨some 27,some (26,true),.fad 7 (.t 1)⟩,⟨some 28,some (26,true),.ld 1 false (.t 27)⟩,⟨some 29,some (26,true),.fad 5 (.t 1)⟩,⟨some 30,some (26,true),.ld 1 false (.t 29)⟩,⟨some 31,some (26,true),.lens (.t 30)⟩,⟨some 32,some (26,true),.call 38 [.t 28,.c i0,.t 31]⟩,oP 33 (.pick (.t 26) (.t 32) (.c (.bool false))),mV 34 33,⟨some 35,some (34,true),.fad 8 (.t 1)⟩,⟨some 36,some (34,true),.ld 1 false (.t 35)⟩,⟨some 37,some (34,true),.call 44 [.t 36]⟩,oP 38 (.pick (.t 34) (.t 37) (.c (.bool false))),mV 39 38,⟨some 40,some (39,true),.fad 9 (.t 1)⟩,⟨some 41,some (39,true),.ld 1 false (.t 40)⟩,⟨some 42,some (39,true),.call 44 [.t 41]⟩,oP 43 (.pick (.t 39) (.t 42) (.c (.bool false))),mV 2 43] .ret))
theorem dg60:Dg Tryz.prog 60 Tryz.f60 ic60 [(.t 2)]:=⟨Tryz.func60,by kernel_rfl,by kernel_rfl⟩
theorem c60 (c:Conv) (h1:c.up.length≤2000000) (h2:c.down.length≤2000000) (h3:c.upGot.length≤2000000) (h4:c.downGot.length≤2000000):FnR Tryz.prog G 60 [.agg [.int .i64 c.ins.a,.int .i64 c.ins.p,.int .i64 c.out.a,.int .i64 c.out.p,.str c.up,.str c.down,.int .i64 c.upAck,.int .i64 c.downAck,.str c.upGot,.str c.downGot]] (.bool (convOk c)):=by
  refine mF dg60 Tryz.ntmps60 ?_
  simp only [ic60,go_sem]
  refine callR (c66 c.ins c.out c.up c.down h1 h2) rfl rfl ?_
  simp only [go_sem]
  have c1:=c44 c.upGot h3
  have c2:=c44 c.downGot h4
  with_reducible repeat' (first|refine br ?_ ?_<;>intro h e<;>(try simp only [e,go_sem])<;>clear e|rw [i64w (by omega)]|refine sd ?_<;>try simp only [go_sem]|(first|refine cr (c38 ..) ?_|refine cr (c1 ..) ?_|refine cr (c2 ..) ?_)<;>try simp only [go_sem]|fail)
  all_goals simp_all [convOk]
theorem take_drop_len {t:B} {n k:Int} (hn:0≤n) (hk:0≤k):(t.take (n+k).toNat).drop n.toNat=(t.drop n.toNat).take k.toNat:=by
  rw [List.drop_take];congr 1;omega
def sameC (c o:Conv):Bool:=decide (o.ins=c.ins) || decide (o.out=c.out)
def ic111:IC:=sR [oP 2 (.box 41 (.t 0)),oP 3 (.mv (.c (.bool false)))] (sR [fD 4 0 2,lA 5 2 4,fD 6 0 1,lA 7 2 6,oP 8 (.eqs false [.i,.i] (.t 5) (.t 7)),mV 9 8,⟨some 10,some (9,false),.fad 2 (.t 2)⟩,⟨some 11,some (9,false),.ld 2 true (.t 10)⟩,⟨some 12,some (9,false),.fad 2 (.t 1)⟩,⟨some 13,some (9,false),.ld 2 true (.t 12)⟩,⟨some 14,some (9,false),.eqs false [.i,.i] (.t 11) (.t 13)⟩,oP 15 (.pick (.t 9) (.c (.bool true)) (.t 14)),mV 3 15] .ret)
theorem dg111:Dg Tryz.prog 111 Tryz.f111 ic111 [(.t 3)]:=⟨Tryz.func111,by kernel_rfl,by kernel_rfl⟩
theorem c111 (o c:Conv):FnR Tryz.prog G 111 [.agg [.int .i64 o.ins.a,.int .i64 o.ins.p,.int .i64 o.out.a,.int .i64 o.out.p,.str o.up,.str o.down,.int .i64 o.upAck,.int .i64 o.downAck,.str o.upGot,.str o.downGot],.iptr [.int .i64 c.ins.a,.int .i64 c.ins.p,.int .i64 c.out.a,.int .i64 c.out.p,.str c.up,.str c.down,.int .i64 c.upAck,.int .i64 c.downAck,.str c.upGot,.str c.downGot] 0] (.bool (sameC c o)):=by
  refine mF dg111 Tryz.ntmps111 ?_
  simp only [ic111,go_sem,E.ext_iff']
  with_reducible repeat' (first|refine br ?_ ?_<;>intro h e<;>(try simp only [e,go_sem,E.ext_iff'])<;>clear e|rw [i64w (by omega)]|refine sd ?_<;>try simp only [go_sem,E.ext_iff']|fail)
  all_goals simp_all [sameC]
def ic125:IC:=sR [oP 4 (.mv (.c i0))] (.seq (sR [mV 6 0,oP 7 (.len (.t 6)),oP 8 (.mv (.c i0))] (.block 0 (.loop (sR [bN 9 .lss 8 7] (.seq (.cond (.t 9) .skip (.exit 0)) (.seq (.block 1 (sR [mV 10 8,mV 5 10] (sR [mV 11 1,mV 12 0,mV 13 5,oP 14 (.iad 10 (.t 12) (.t 13)),lA 15 10 14,oP 16 (.cal (.t 11) [.t 15])] (.cond (.t 16) (sR [mV 17 5,mV 4 17] .ret) .skip)))) (.reg [oP 18 (.bin .add (.t 8) (.c (.int .i64 1))),mV 8 18]))))))) (sR [oP 4 (.mv (.c (.int .i64 (-1))))] .ret))
theorem dg125:Dg Tryz.prog 125 Tryz.f125 ic125 [(.t 4)]:=⟨Tryz.func125,by kernel_rfl,by kernel_rfl⟩
theorem c125T (l:List Conv) (c:Conv) (hl:l.length≤2000000):FnR Tryz.prog G 125 [.sl 10 (l.map Conv.row),.fn 111 [.iptr [.int .i64 c.ins.a,.int .i64 c.ins.p,.int .i64 c.out.a,.int .i64 c.out.p,.str c.up,.str c.down,.int .i64 c.upAck,.int .i64 c.downAck,.str c.upGot,.str c.downGot] 0]] (.int .i64 (ixI (l.findIdx? (sameC c)))):=by
  refine mF dg125 Tryz.ntmps125 ?_
  simp only [ic125,go_sem]
  refine loopN (fun k:Nat=>⟨getL [(0,.sl 10 (l.map Conv.row)),(1,.fn 111 [.iptr [.int .i64 c.ins.a,.int .i64 c.ins.p,.int .i64 c.out.a,.int .i64 c.out.p,.str c.up,.str c.down,.int .i64 c.upAck,.int .i64 c.downAck,.str c.upGot,.str c.downGot] 0]),(7,.int .i64 l.length),(8,.int .i64 (k:Int))],getH []⟩) (fun k=>l.length - k)
    (fun k=>k≤l.length∧(l.take k).any (sameC c)=false) 0 (leQ []) ⟨Nat.zero_le _,by simp⟩ ?_
  intro k ⟨hk,ha⟩
  simp only [go_sem]
  by_cases h:(k:Int)<l.length
  · have hil:k<l.length:=by omega
    have hg:l.getD k default=l[k]:=by simp [List.getD,hil]
    have hy:=findIdx_yes hil ha
    have hs:=any_step hil ha
    simp only [eq_true h,go_sem]
    refine effG (by omega) ?_
    simp only [hg,go_sem]
    refine callR (c111 l[k] c) rfl rfl ?_
    simp only [go_sem]
    with_reducible repeat' (first|refine br ?_ ?_<;>intro h e<;>(try simp only [e,go_sem])<;>clear e|rw [i64w (by omega)]|refine sd ?_<;>try simp only [go_sem]|fail)
    · rw [hy (by assumption)];rfl
    · exact ⟨k+1,by omega,⟨by omega,hs (by assumption)⟩,(leQ [])⟩
  · simp only [eq_false h,go_sem]
    have:k=l.length:=by omega
    subst this
    rw [List.take_length] at ha
    rw [findIdx_no ha];rfl
def ic71:IC:=sR [oP 4 (.mv (.c (.bool false)))] (sR [mV 5 0,mV 6 1,oP 7 (.call 125 [.t 5,.t 6]),oP 8 (.bin .geq (.t 7) (.c i0)),mV 4 8] .ret)
theorem dg71:Dg Tryz.prog 71 Tryz.f71 ic71 [(.t 4)]:=⟨Tryz.func71,by kernel_rfl,by kernel_rfl⟩
theorem c71T (l:List Conv) (c:Conv) (hl:l.length≤2000000):FnR Tryz.prog G 71 [.sl 10 (l.map Conv.row),.fn 111 [.iptr [.int .i64 c.ins.a,.int .i64 c.ins.p,.int .i64 c.out.a,.int .i64 c.out.p,.str c.up,.str c.down,.int .i64 c.upAck,.int .i64 c.downAck,.str c.upGot,.str c.downGot] 0]] (.bool (l.any (sameC c))):=by
  refine mF dg71 Tryz.ntmps71 ?_
  simp only [ic71,go_sem]
  refine callR (c125T l c hl) rfl rfl ?_
  simp only [go_sem,ixI_any]
theorem okConv_b {cs:List Conv} {k:Nat} (h:k<cs.length) (hb:okConv cs k=false):together cs=false:=by
  cases ht:together cs with
  | false=>rfl
  | true=>rw [(together_iff.1 ht).2 k h] at hb;cases hb
def ic54:IC:=sR [oP 2 (.mv (.c (.bool false)))] (.seq (sR [mV 5 0,oP 6 (.len (.t 5)),oP 7 (.mv (.c i0))] (.block 0 (.loop (sR [bN 8 .lss 7 6] (.seq (.cond (.t 8) .skip (.exit 0)) (.seq (.block 1 (sR [mV 9 7,oP 10 (.iad 10 (.t 5) (.t 7)),lA 11 10 10,oP 4 (.alloc 41 [i0,i0,i0,i0,s0,s0,i0,i0,s0,s0]),mV 3 9,nP (.sto 10 (.t 4) (.t 11))] (sR [lA 12 10 4,oP 13 (.call 60 [.t 12]),oP 14 (.un .not (.t 13)),mV 15 14,⟨some 16,some (15,false),.mv (.t 0)⟩,⟨some 17,some (15,false),.mv (.t 3)⟩,⟨some 18,some (15,false),.slv 10 (.t 16) none (some (.t 17))⟩,⟨some 19,some (15,false),.mkf 111 [.t 4]⟩,⟨some 20,some (15,false),.call 71 [.t 18,.t 19]⟩,oP 21 (.pick (.t 15) (.c (.bool true)) (.t 20))] (.cond (.t 21) (sR [oP 2 (.mv (.c (.bool false)))] .ret) .skip)))) (.reg [oP 22 (.bin .add (.t 7) (.c (.int .i64 1))),mV 7 22]))))))) (sR [mV 23 0,oP 24 (.len (.t 23)),oP 25 (.bin .leq (.t 24) (.c (.int .i64 2))),mV 2 25] .ret))
theorem dg54:Dg Tryz.prog 54 Tryz.f54 ic54 [(.t 2)]:=⟨Tryz.func54,by kernel_rfl,by kernel_rfl⟩
theorem c54 (cs:List Conv) (hl:cs.length≤2000000) (hB:∀ c∈cs,(c.up.length≤2000000∧c.down.length≤2000000)∧c.upGot.length≤2000000∧c.downGot.length≤2000000):FnR Tryz.prog G 54 [.sl 10 (cs.map Conv.row)] (.bool (together cs)):=by
  refine mF dg54 Tryz.ntmps54 ?_
  simp only [ic54,go_sem]
  refine loopN (fun i:Nat=>⟨getL [(0,.sl 10 (cs.map Conv.row)),(5,.sl 10 (cs.map Conv.row)),(6,.int .i64 cs.length),(7,.int .i64 (i:Int))],getH []⟩) (fun i=>cs.length - i) (fun i=>i≤cs.length∧∀ j,j<i→okConv cs j=true) 0 (leQ []) ⟨Nat.zero_le _,by omega⟩ ?_
  intro i ⟨hi,ha⟩
  simp only [go_sem]
  by_cases h:(i:Int)<cs.length
  · have hil:i<cs.length:=by omega
    have hg:cs.getD i default=cs[i]:=by simp [List.getD,hil]
    have hok:=okConv_i hil
    obtain ⟨⟨b1,b2⟩,b3,b4⟩:=hB _ (List.getElem_mem hil)
    have c1:=c60 cs[i] b1 b2 b3 b4
    have c2:=c71T (cs.take i) cs[i] (by simp;omega)
    simp only [eq_true h,go_sem]
    with_reducible repeat' (first|refine br ?_ ?_<;>intro h e<;>(try simp only [e,go_sem,hg,mkf_pv1])<;>clear e|rw [i64w (by omega)]|refine sd ?_<;>try simp only [go_sem,hg,mkf_pv1]|(first|refine cr (c1 ..) ?_)<;>try simp only [go_sem,hg,mkf_pv1]|fail)
    · exact okConv_b hil (by rw [hok];simp_all)
    refine callF c2 [1004] true (by simp only [go_sem,List.mem_cons,true_or,or_true]) (by simp only [List.mem_singleton];rintro c rfl;rfl) rfl (.inl rfl) ?_
    have he:(cs.take i).any (fun o=>decide (o.ins=cs[i].ins) || decide (o.out=cs[i].out))=(cs.take i).any (sameC cs[i]):=rfl
    rw [he] at hok
    generalize (cs.take i).any (sameC cs[i])=b at *
    simp only [go_sem]
    cases b<;>simp only [go_sem]
    · with_reducible repeat' (first|refine br ?_ ?_<;>intro h e<;>(try simp only [e,go_sem])<;>clear e|rw [i64w (by omega)]|refine sd ?_<;>try simp only [go_sem]|fail)
      refine ⟨i+1,by omega,⟨by omega,fun j hj=>?_⟩,(leQ [])⟩
      rcases Nat.lt_or_ge j i with hji|hji
      · exact ha j hji
      · obtain rfl:j=i:=by omega
        rw [hok];simp_all
    · exact okConv_b hil (by rw [hok];simp_all)
  · simp only [eq_false h,go_sem]
    have:i=cs.length:=by omega
    subst this
    with_reducible repeat' (first|refine br ?_ ?_<;>intro h e<;>(try simp only [e,go_sem])<;>clear e|rw [i64w (by omega)]|refine sd ?_<;>try simp only [go_sem]|fail)
    have h1:=together_iff (cs:=cs)
    by_cases h2:cs.length≤2
    · rw [h1.2 ⟨h2,ha⟩];exact (decide_eq_true (by omega)).symm
    · have:together cs=false:=by
        cases ht:together cs with
        | false=>rfl
        | true=>exact absurd (h1.1 ht).1 h2
      rw [this];exact (decide_eq_false (by omega)).symm
end Go.Proofs.YtggifndkolojmaaGreatDoor.W
