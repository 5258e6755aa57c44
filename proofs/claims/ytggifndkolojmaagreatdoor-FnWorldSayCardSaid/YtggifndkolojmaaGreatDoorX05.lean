/- Part 5 of the proof: the walk over values, the plain model, contracts of the functions of the program. -/
import Derived.Test.YtggifndkolojmaaGreatDoorX04
import Derived.Test.YtggifndkolojmaaGreatDoorX02
import Derived.Test.YtggifndkolojmaaGreatDoorX03
import Derived.OwnWalk
import Derived.WalkKit
import Derived.Deep.LoopGhost
import Derived.Deep.RegionLaw
import Derived.Lib.Walk
import Derived.Lib.SliceRun
import Derived.Sort.WalkB12
set_option linter.all false
namespace Go.Proofs.YtggifndkolojmaaGreatDoor.W
open Go Go.RowKit Go.Proofs Go.Proofs.YtggifndkolojmaaGreatDoor.VL Go.Proofs.YtggifndkolojmaaGreatDoor.M
attribute [local congr] optK_congr guardK_congr condK_congr runT_congr runD_congr wpI_congr CallV_congr LoopI_congr pureK_congr effK_congr calK_congr stepV_congr doV_congr exN_congr exB_congr retF_congr retQ_congr gK_congr condW_congr ldK_congr stoK_congr
attribute [local go_sem] argL_cons argL_nil argH_nil argH_cons chH_getH wpI_seq wpI_reg wpI_drw wpI_ret cond_k condW_t condW_f wpI_skip wpI_block wpI_exit wpI_loop exN_n exN_r exN_e exB_n exB_r exB_h exB_m runT_k kT_e runT_nil runD_k kD_e runD_nil step_u step_k gK_t gK_f do_mv do_bino bo_add bo_sub bo_mul bo_subu bo_quo bo_rem bo_xor bo_eql bo_neq bo_lss bo_leq bo_gtr bo_geq bo_cat bo_eqs bo_nes do_pick do_call do_cal calK_f do_box do_alloc do_ldk ldK_s do_stok stoK_s do_fad do_nilc do_not do_neg do_len do_lens do_ext do_eqs do_beq do_isn do_cvi do_sls do_idx do_mn do_mx do_build do_mkf do_s2b do_b2s do_slv do_iad do_bsl do_mks do_app ev_t ev_c app_some app_none
attribute [local go_sem] List.nil_append List.cons_append List.append_nil getL_hit getL_miss getH_nil getH_hit getH_miss nm_eq ne_eq Nat.reduceEqDiff not_false_eq_true Nat.reduceAdd Nat.add_zero Nat.zero_add if_true if_false ite_true ite_false pureK_s effK_s optK_s gdV_t gdV_f gdV_s pick_b ge_iff_le gt_iff_lt cond_true cond_false fresh_k cells_agg cells_int cells_bool cells_str cells_own cells_sl cells_nils ld_pv ld_pa ld_ip ldVar_t ldVar_f ldArr_t ldArr_f ldRow_t ldRow_f ldA_s ld1_s fad_pv fad_pa fad_ip nilc_pv nilc_pa nilc_ip not_b neg_i cvi_i ext_t retF_n retF_r
attribute [local go_sem] resV_k rvs_nil rvs_t rvs_c fstO_s consO_s resK_s resL_1 resL_2 resL_3 resL_4  Option.some.injEq List.map_cons List.map_nil List.all_cons List.all_nil Bool.and_true Bool.and_self Bool.not_true Bool.not_false Option.map_some Option.map_none sls_s slsG_s loV_n loV_i hiV_n hiV_i idx_s mn_i mx_i s2b_s b2s_s bytO_s bytes_nil bytes_cons conB_s slv_sl slv_own slv_nils slvG_s slvN_s slvO_s iad_sl iadG_map take_map drop_map List.length_map iad_own iad_view iadO_a iadW_a mks_i rowO_nils rowO_sl rowO_own rowA_a eq_self appG_nils appG_own appO_a guardP_T mapA_s bld_nil mkf_nil bldF_e fill_nil fill_cons mkf_e lens_s len_nils len_sl len_own len_view isn_nile isn_erre List.getElem?_cons_zero List.getElem?_cons_succ List.length_cons List.length_nil decide_true decide_false Int.toNat_natCast Int.cast_ofNat_Int Int.reduceLT Int.reduceLE Int.reduceEq Int.reduceAdd Int.reduceSub Int.reduceMul Int.reduceNeg Int.reduceToNat List.getD_cons_zero List.getD_cons_succ not_true_eq_false not_false_eq_true Bool.false_eq_true Bool.true_eq_false reduceCtorEq
attribute [local go_sem] E.row Pc.row Pair.row Part.row Strm.row Flw.row Pk.row Door.row Conv.row World.row Ev.row rdV E.eta Pc.eta Pair.eta Part.eta Strm.eta Pk.eta Flw.eta Conv.eta Door.eta World.eta Ev.eta
attribute [local go_sem] sub_ok st_pv st_pa stVar_v stArr_a Nat.le_refl List.drop_zero List.drop_succ_cons List.take_succ_cons List.take_zero setR Nat.reduceLeDiff
attribute [local go_sem] wk_bot wk2_bot wk1_bot wk_undef wk_tup_e wk2_agg_e wk_agg_e wk1_fn_e wk2_fn_e wk_fn_e wkl_nil wkl_cons wkh_var_e wkh_arr_e wkh_fresh_e wkh_dead_v wkh_dead_a wkh_dead_d wk0_undef wk0_int wk0_bool wk0_str wk0_nils wk0_nils_sl wk0_nilp wk0_nile wk0_erre wk0_sl wk0_iptr wk0_own wk0_view wk0_pv wk0_pa fzA_a fzW_a fzP_v wk0_own_sl wk0_view_sl wk0_pv_iptr WkS_nil WkS_cons WkN_nil WkN_cons nonB_nil nonB_cons getN_nil getN_hit getN_miss pinOk_0 pinOk_s and_true true_and and_self
attribute [local go_sem] bot_int one_int unt_int clo_int bot_bool one_bool unt_bool clo_bool bot_str one_str unt_str clo_str bot_nils one_nils unt_nils clo_nils bot_nilp one_nilp unt_nilp clo_nilp bot_nile one_nile unt_nile clo_nile bot_erre one_erre unt_erre clo_erre bot_raw one_raw unt_raw clo_raw bot_sl one_sl unt_sl clo_sl bot_own one_own unt_own clo_own bot_view one_view unt_view clo_view bot_pv one_pv unt_pv clo_pv bot_pa one_pa unt_pa clo_pa bot_iptr one_iptr unt_iptr clo_iptr unt_agg unt_fn one_fn
attribute [local go_sem] rn_tup rn_agg rn2_agg rn_fn rn2_fn rnfn1 rn_bot rn2_bot rn1_bot rn0_int rn0_bool rn0_str rn0_nils rn0_nilp rn0_nile rn0_erre rn0_sl rn0_iptr rn0_own rn0_view rn0_pv rn0_pa hrn_var hrn_arr hrn_dead outU_nil outU_cons deads_nil deads_cons bk_ge bk_lt nsF_0 nsF_s chH_0 chH_s chH_n newN_e andB_s eqR_nil eqR_i eqR_b eqR_s mapX_f mapX_t eqs_a beq_f beq_t live_arr live_var nsl_nil nsl_cons Nat.reduceMul Nat.reduceLT Nat.zero_le Nat.not_lt_zero
attribute [local go_sem] mV lD lA fD bN eX oP nP sR i0 s0
theorem resL_0:resL []=some (.tup []):=rfl
theorem say_no {c:Conv} {up:Bool} {port n m:Int} (h:within n 0 ((bif up then c.up else c.down).length - 1)=false∨m<1∨(up=false∧(⟨9,port⟩:E).door=false)):say c up port n m=none:=by
  unfold say
  cases up<;>simp only [cond_true,cond_false] at h<;>simp only [Bool.false_eq_true,if_false,if_true]<;>rw [if_neg]<;>simp only [Bool.and_eq_true,decide_eq_true_eq,not_and,Bool.or_eq_true,Bool.false_eq_true,false_or,true_or,not_true_eq_false]
  · rintro ⟨h1,h2⟩ h3
    rcases h with h|h|h
    · rw [h1] at h;cases h
    · omega
    · rw [h.2] at h3;cases h3
  · rintro h1
    rcases h with h|h|h
    · rw [h1.1] at h;cases h
    · omega
    · cases h.1
theorem say_yes {c:Conv} {up:Bool} {port n m:Int} (h1:within n 0 ((bif up then c.up else c.down).length - 1)=true) (h2:1≤m) (h3:up=true∨(⟨9,port⟩:E).door=true) :
    say c up port n m=some (bif up then ⟨1,c.ins,c.out,n,(c.up.drop n.toNat).take (min m (c.up.length - n)).toNat⟩ else ⟨1,c.out,⟨9,port⟩,n,(c.down.drop n.toNat).take (min m (c.down.length - n)).toNat⟩):=by
  unfold say
  cases up<;>simp only [cond_true,cond_false] at h1 ⊢<;>simp only [Bool.false_eq_true,if_false,if_true]<;>rw [if_pos]
  · simp only [h1,Bool.true_and,Bool.and_eq_true,decide_eq_true_eq,Bool.false_or]
    exact ⟨h2,h3.resolve_left (by simp)⟩
  · simp only [h1,Bool.true_and,Bool.and_eq_true,decide_eq_true_eq,Bool.true_or,and_true]
    exact h2
def ic61:IC:=sR [oP 5 (.box 41 (.t 0)),oP 10 (.alloc 54 [i0,i0,i0,i0,i0,i0,s0]),oP 11 (.mv (.c (.bool false)))] (sR [fD 14 0 5,lA 15 2 14,fD 16 2 5,lA 17 2 16,mV 18 3,oP 19 (.build [i0,i0,i0,i0,i0,i0,s0] [(0,(1,.c (.int .i64 1))),(1,(2,.t 15)),(3,(2,.t 17)),(5,(1,.t 18))]),oP 12 (.alloc 54 [i0,i0,i0,i0,i0,i0,s0]),nP (.sto 7 (.t 12) (.t 19))] (sR [fD 20 4 5,lD 21 1 20,mV 13 21] (.seq (sR [mV 22 1,oP 23 (.un .not (.t 22))] (.cond (.t 23) (sR [fD 24 2 5,lA 25 2 24,mV 26 2,oP 27 (.build [i0,i0] [(0,(1,.c (.int .i64 9))),(1,(1,.t 26))]),fD 28 1 12,nP (.sto 2 (.t 28) (.t 25)),fD 29 3 12,nP (.sto 2 (.t 29) (.t 27))] (.reg [fD 30 5 5,lD 31 1 30,mV 13 31])) .skip)) (.seq (sR [mV 32 3,mV 33 13,oP 34 (.lens (.t 33)),oP 35 (.bin .sub (.t 34) (.c (.int .i64 1))),oP 36 (.call 38 [.t 32,.c i0,.t 35]),oP 37 (.un .not (.t 36)),mV 38 37,⟨some 39,some (38,false),.mv (.t 4)⟩,⟨some 40,some (38,false),.bin .lss (.t 39) (.c (.int .i64 1))⟩,oP 41 (.pick (.t 38) (.c (.bool true)) (.t 40)),mV 42 41,⟨some 43,some (42,false),.mv (.t 1)⟩,⟨some 44,some (42,false),.un .not (.t 43)⟩,⟨some 45,some (42,false),.mv (.t 44)⟩,⟨some 46,some (45,true),.fad 3 (.t 12)⟩,⟨some 47,some (45,true),.ld 2 true (.t 46)⟩,⟨some 48,some (45,true),.call 115 [.t 47]⟩,⟨some 49,some (45,true),.un .not (.t 48)⟩,⟨some 50,some (42,false),.pick (.t 45) (.t 49) (.c (.bool false))⟩,oP 51 (.pick (.t 42) (.c (.bool true)) (.t 50))] (.cond (.t 51) (sR [oP 52 (.build [i0,i0,i0,i0,i0,i0,s0] []),nP (.sto 7 (.t 10) (.t 52)),oP 11 (.mv (.c (.bool false)))] .ret) .skip)) (sR [mV 53 13,mV 54 3,mV 55 3,mV 56 4,mV 57 13,oP 58 (.lens (.t 57)),mV 59 3,bN 60 .sub 58 59,oP 61 (.mn (.t 56) (.t 60)),bN 62 .add 55 61,oP 63 (.sls (.t 53) (some (.t 54)) (some (.t 62))),fD 64 6 12,nP (.sto 1 (.t 64) (.t 63))] (sR [lA 65 7 12,nP (.sto 7 (.t 10) (.t 65)),oP 11 (.mv (.c (.bool true)))] .ret))))))
theorem dg61:Dg Tryz.prog 61 Tryz.f61 ic61 [(.cell 10 7 true),(.t 11)]:=⟨Tryz.func61,by kernel_rfl,by kernel_rfl⟩
theorem c61 (c:Conv) (up:Bool) (port n m:Int) (h1:c.up.length≤2000000) (h2:c.down.length≤2000000):FnR Tryz.prog G 61 [.agg [.int .i64 c.ins.a,.int .i64 c.ins.p,.int .i64 c.out.a,.int .i64 c.out.p,.str c.up,.str c.down,.int .i64 c.upAck,.int .i64 c.downAck,.str c.upGot,.str c.downGot],.bool up,.int .i64 port,.int .i64 n,.int .i64 m]
    (.tup [.agg (Pk.row ((say c up port n m).getD .zero)),.bool (say c up port n m).isSome]):=by
  refine mF dg61 Tryz.ntmps61 ?_
  simp only [ic61,go_sem]
  cases up<;>simp only [go_sem]
  · have hno:=fun h=>say_no (c:=c) (up:=false) (port:=port) (n:=n) (m:=m) h
    have hyes:=fun h1 h2 h3=>say_yes (c:=c) (up:=false) (port:=port) (n:=n) (m:=m) h1 h2 h3
    simp only [cond_false,true_and,Bool.false_eq_true,false_or] at hno hyes
    rw [i64w (by omega)]
    refine callR (c38 n 0 ((c.down.length:Int) - 1)) rfl rfl ?_
    cases hw:within n 0 ((c.down.length:Int) - 1)<;>simp only [go_sem]
    · rw [hno (.inl hw)];simp [Pk.zero,E.zero]
    have hw2:=M.within_iff.1 hw
    have w1:IntKind.i64.wrap ((c.down.length:Int) - n)=c.down.length - n:=i64w (by omega)
    have w2:1≤m→IntKind.i64.wrap (n+min m ((c.down.length:Int) - n))=n+min m ((c.down.length:Int) - n):=fun _=>i64w (by omega)
    with_reducible repeat' (first|refine br ?_ ?_<;>intro h e<;>(try simp only [e,go_sem,w1])<;>clear e|rw [i64w (by omega)]|refine sd ?_<;>try simp only [go_sem,w1]|(first|refine cr (c115 ..) ?_)<;>try simp only [go_sem,w1]|fail)
    · rw [hno (.inr (.inl (by assumption)))];simp [Pk.zero,E.zero]
    · have w2:=w2 (by omega)
      rw [hyes hw (by omega) (by assumption),take_drop_len (by omega) (by omega)]
      simp
    · rw [hno (.inr (.inr (by assumption)))];simp [Pk.zero,E.zero]
  · have hno:=fun h=>say_no (c:=c) (up:=true) (port:=port) (n:=n) (m:=m) h
    have hyes:=fun h1 h2 h3=>say_yes (c:=c) (up:=true) (port:=port) (n:=n) (m:=m) h1 h2 h3
    simp only [cond_true,true_or,true_implies,Bool.true_eq_false,false_and,or_false] at hno hyes
    rw [i64w (by omega)]
    refine callR (c38 n 0 ((c.up.length:Int) - 1)) rfl rfl ?_
    cases hw:within n 0 ((c.up.length:Int) - 1)<;>simp only [go_sem]
    · rw [hno (.inl hw)];simp [Pk.zero,E.zero]
    have hw2:=M.within_iff.1 hw
    have w1:IntKind.i64.wrap ((c.up.length:Int) - n)=c.up.length - n:=i64w (by omega)
    have w2:1≤m→IntKind.i64.wrap (n+min m ((c.up.length:Int) - n))=n+min m ((c.up.length:Int) - n):=fun _=>i64w (by omega)
    with_reducible repeat' (first|refine br ?_ ?_<;>intro h e<;>(try simp only [e,go_sem,w1])<;>clear e|rw [i64w (by omega)]|refine sd ?_<;>try simp only [go_sem,w1]|(first|refine cr (c115 ..) ?_)<;>try simp only [go_sem,w1]|fail)
    · rw [hno (.inr (by assumption))];simp [Pk.zero,E.zero]
    · have w2:=w2 (by omega)
      rw [hyes hw (by omega),take_drop_len (by omega) (by omega)]
      simp
def ic67:IC:=sR [oP 4 (.box 54 (.t 1))] (sR [mV 6 2,mV 7 6,⟨some 8,some (7,true),.mv (.t 0)⟩,⟨some 9,some (7,true),.nilc (.t 8)⟩,⟨some 10,some (7,true),.fad 3 (.t 9)⟩,⟨some 11,some (7,true),.ld 1 false (.t 10)⟩,⟨some 12,some (7,true),.len (.t 11)⟩,⟨some 13,some (7,true),.bin .lss (.t 12) (.c (.int .i64 10))⟩,oP 14 (.pick (.t 7) (.t 13) (.c (.bool false)))] (.cond (.t 14) (.drw [0,0,2,6,14,0,32,126,255,511,1023] [(0,mV 15 0),(1,mV 16 0),(2,oP 17 (.nilc (.t 16))),(3,fD 18 3 17),(4,lD 19 1 18),(5,lA 20 7 4),(6,oP 21 (.bsl 54 7 [.t 20])),(7,oP 22 (.app 54 7 (.t 19) (.t 21))),(8,oP 23 (.nilc (.t 15))),(9,fD 24 3 23),(10,nP (.sto 1 (.t 24) (.t 22)))]) .skip))
theorem dg67:Dg Tryz.prog 67 Tryz.f67 ic67 []:=⟨Tryz.func67,by kernel_rfl,by kernel_rfl⟩
theorem c67 (w:M.World) (p:Pk) (ok:Bool) (hn:w.nets.length≤2000000):FnP Tryz.prog G 67 1 [.var 33 [.own 2 w.convs.length,.sl 3 (w.door.map.map Pair.row),.own 1 w.door.flows.length,.own 3 w.nets.length],.arr 46 8 (w.door.flows.map Flw.row),.arr 41 10 (w.convs.map Conv.row),.arr 54 7 (w.nets.map Pk.row)] [.pv 0 0,.agg [.int .i64 p.kind,.int .i64 p.frm.a,.int .i64 p.frm.p,.int .i64 p.to.a,.int .i64 p.to.p,.int .i64 p.at_,.str p.text],.bool ok] (fun r o=>r=.tup []∧∃ v,v=send w (bif ok then some p else none)∧o=[.var 33 [.own 2 v.convs.length,.sl 3 (v.door.map.map Pair.row),.own 1 v.door.flows.length,.own 3 v.nets.length],.arr 46 8 (v.door.flows.map Flw.row),.arr 41 10 (v.convs.map Conv.row),.arr 54 7 (v.nets.map Pk.row)]):=by
  refine mP dg67 Tryz.ntmps67 ⟨_,_,rfl,_,rfl,rfl⟩ ?_
  simp only [ic67,go_sem]
  have hno:send w none=w:=rfl
  have hfull:¬ w.nets.length<10→send w (some p)=w:=fun h=>by simp only [send];rw [if_neg h]
  have fin:∀ l mm (v:M.World) (o:Option Pk) (n:Nat),send w o=v→v.convs=w.convs→v.door=w.door→getH mm 0=.var 33 [.own 2 w.convs.length,.sl 3 (w.door.map.map Pair.row),.own 1 w.door.flows.length,.own n v.nets.length]→getH mm 1=.arr 46 8 (w.door.flows.map Flw.row)→getH mm 2=.arr 41 10 (w.convs.map Conv.row)→getH mm n=.arr 54 7 (v.nets.map Pk.row)→n≠0→n≠1→n≠2 →
      retQ [] 1 (fun r o'=>r=.tup []∧∃ v,v=send w o∧o'=[.var 33 [.own 2 v.convs.length,.sl 3 (v.door.map.map Pair.row),.own 1 v.door.flows.length,.own 3 v.nets.length],.arr 46 8 (v.door.flows.map Flw.row),.arr 41 10 (v.convs.map Conv.row),.arr 54 7 (v.nets.map Pk.row)]) .normal ⟨getL l,getH mm⟩:=fun l mm v o n h0 h1 h2 h3 h4 h5 h6 n0 n1 n2=>by
    show retQ _ _ _ .ret _
    refine retN (.tup []) [.var 33 [.own 2 v.convs.length,.sl 3 (v.door.map.map Pair.row),.own 1 v.door.flows.length,.own 3 v.nets.length],.arr 46 8 (v.door.flows.map Flw.row),.arr 41 10 (v.convs.map Conv.row),.arr 54 7 (v.nets.map Pk.row)] [(3,n)] (by simp only [go_sem,resL_0]) ⟨rfl,v,h0.symm,rfl⟩ ?_ ?_ (by simp only [go_sem])
    · rw [h1,h2];simp only [go_sem,h3,h4,h5,h6]
    · simp [argH,getN];omega
  cases ok<;>simp only [go_sem]
  · exact fin _ _ w none 3 rfl rfl rfl (by simp only [go_sem]) (by simp only [go_sem]) (by simp only [go_sem]) (by simp only [go_sem]) (by omega) (by omega) (by omega)
  with_reducible repeat' (first|refine br ?_ ?_<;>intro h e<;>(try simp only [e,go_sem])<;>clear e|rw [i64w (by omega)]|refine sd ?_<;>try simp only [go_sem]|fail)
  · have hx:send w (some p)={ w with nets:=w.nets++[p] }:=by simp only [send];rw [if_pos (by omega)]
    exact fin _ _ { w with nets:=w.nets++[p] } (some p) 1022 hx rfl rfl (by simp only [go_sem];simp) (by simp only [go_sem]) (by simp only [go_sem]) (by simp only [go_sem];simp [Pk.row]) (by omega) (by omega) (by omega)
  · exact fin _ _ w (some p) 3 (hfull (by omega)) rfl rfl (by simp only [go_sem]) (by simp only [go_sem]) (by simp only [go_sem]) (by simp only [go_sem]) (by omega) (by omega) (by omega)
def ic123:IC:=sR [oP 5 (.box 54 (.t 2)),oP 6 (.alloc 54 [i0,i0,i0,i0,i0,i0,s0]),oP 7 (.mv (.c (.bool false)))] (.seq (.drw [0,1,3,0,8,24,0,64,192,448,960,7,2111,8191] [(0,mV 12 0),(1,oP 13 (.nilc (.t 12))),(2,fD 14 8 13),(3,mV 15 0),(4,oP 16 (.nilc (.t 15))),(5,fD 17 7 16),(6,mV 18 0),(7,oP 19 (.nilc (.t 18))),(8,fD 20 5 19),(9,lD 21 1 20),(10,oP 22 (.lens (.t 21))),(11,mV 8 14),(12,mV 9 17),(13,mV 10 22)]) (.seq (.drw [0,1,3,7,15,31,15,79,207,463,1023,2047,4095] [(0,fD 23 1 5),(1,lA 24 2 23),(2,oP 25 (.call 115 [.t 24])),(3,mV 26 25),(4,⟨some 27,some (26,true),.fad 3 (.t 5)⟩),(5,⟨some 28,some (26,true),.ld 2 true (.t 27)⟩),(6,⟨some 29,some (26,true),.mv (.t 0)⟩),(7,⟨some 30,some (26,true),.nilc (.t 29)⟩),(8,⟨some 31,some (26,true),.fad 2 (.t 30)⟩),(9,⟨some 32,some (26,true),.ld 2 true (.t 31)⟩),(10,⟨some 33,some (26,true),.eqs false [.i,.i] (.t 28) (.t 32)⟩),(11,oP 34 (.pick (.t 26) (.t 33) (.c (.bool false)))),(12,mV 11 34)]) (.seq (sR [mV 35 1] (.cond (.t 35) (.seq (.drw [0,1,3,0,8,24,0,64,192,448,960,7,2111,8191] [(0,mV 36 0),(1,oP 37 (.nilc (.t 36))),(2,fD 38 9 37),(3,mV 39 0),(4,oP 40 (.nilc (.t 39))),(5,fD 41 6 40),(6,mV 42 0),(7,oP 43 (.nilc (.t 42))),(8,fD 44 4 43),(9,lD 45 1 44),(10,oP 46 (.lens (.t 45))),(11,mV 8 38),(12,mV 9 41),(13,mV 10 46)]) (.drw [0,1,0,4,12,28,63,127,255,511,255,1279,3327,7423,16383,32767,65535] [(0,fD 47 1 5),(1,lA 48 2 47),(2,mV 49 0),(3,oP 50 (.nilc (.t 49))),(4,fD 51 2 50),(5,lA 52 2 51),(6,oP 53 (.eqs false [.i,.i] (.t 48) (.t 52))),(7,mV 54 53),(8,⟨some 55,some (54,true),.fad 3 (.t 5)⟩),(9,⟨some 56,some (54,true),.ld 2 true (.t 55)⟩),(10,⟨some 57,some (54,true),.mv (.t 0)⟩),(11,⟨some 58,some (54,true),.nilc (.t 57)⟩),(12,⟨some 59,some (54,true),.fad 0 (.t 58)⟩),(13,⟨some 60,some (54,true),.ld 2 true (.t 59)⟩),(14,⟨some 61,some (54,true),.eqs false [.i,.i] (.t 56) (.t 60)⟩),(15,oP 62 (.pick (.t 54) (.t 61) (.c (.bool false)))),(16,mV 11 62)])) .skip)) (.seq (.block 0 (sR [mV 64 11,oP 65 (.un .not (.t 64)),mV 63 65] (.cond (.t 63) (sR [oP 66 (.build [i0,i0,i0,i0,i0,i0,s0] []),nP (.sto 7 (.t 6) (.t 66)),oP 7 (.mv (.c (.bool false)))] .ret) (sR [fD 68 0 5,lD 69 1 68,oP 70 (.bin .eql (.t 69) (.c (.int .i64 2))),mV 67 70] (.cond (.t 67) (.seq (.drw [0,0,2,6,0,16,0,112,254,511,1023] [(0,mV 71 9),(1,mV 72 9),(2,oP 73 (.nilc (.t 72))),(3,lD 74 1 73),(4,fD 75 5 5),(5,lD 76 1 75),(6,mV 77 10),(7,oP 78 (.mn (.t 76) (.t 77))),(8,oP 79 (.mx (.t 74) (.t 78))),(9,oP 80 (.nilc (.t 71))),(10,nP (.sto 1 (.t 80) (.t 79)))]) (sR [oP 81 (.build [i0,i0,i0,i0,i0,i0,s0] []),nP (.sto 7 (.t 6) (.t 81)),oP 7 (.mv (.c (.bool false)))] .ret)) .skip))))) (.seq (.drw [0,0,2,6,0,16,0,64,254,510,1022,1022,2047,6143] [(0,mV 83 8),(1,mV 84 8),(2,oP 85 (.nilc (.t 84))),(3,lD 86 1 85),(4,fD 87 5 5),(5,lD 88 1 87),(6,fD 89 6 5),(7,lD 90 1 89),(8,oP 91 (.call 161 [.t 86,.t 88,.t 90])),(9,mV 82 91),(10,eX 92 82 0),(11,eX 93 82 1),(12,oP 94 (.nilc (.t 83))),(13,nP (.sto 1 (.t 94) (.t 92)))]) (.seq (.drw [0,1,0,4,0,16,48,112,255,511,1023] [(0,fD 95 3 5),(1,lA 96 2 95),(2,fD 97 1 5),(3,lA 98 2 97),(4,mV 99 8),(5,oP 100 (.nilc (.t 99))),(6,lD 101 1 100),(7,oP 102 (.lens (.t 101))),(8,oP 103 (.build [i0,i0,i0,i0,i0,i0,s0] [(0,(1,.c (.int .i64 2))),(1,(2,.t 96)),(3,(2,.t 98)),(5,(1,.t 102))])),(9,nP (.sto 7 (.t 6) (.t 103))),(10,oP 7 (.mv (.c (.bool true))))]) .ret))))))
theorem dg123:Dg Tryz.prog 123 Tryz.f123 ic123 [(.cell 6 7 true),(.t 7)]:=⟨Tryz.func123,by kernel_rfl,by kernel_rfl⟩
theorem c123 (cs:List Conv) (k:Nat) (b:Bool) (p:Pk) (hk:k<cs.length) (hc:CvB (cs.getD k default)) (hp:PkP p):FnP Tryz.prog G 123 1 [.arr 41 10 (cs.map Conv.row)] [.pa 0 k 0,.bool b,.agg [.int .i64 p.kind,.int .i64 p.frm.a,.int .i64 p.frm.p,.int .i64 p.to.a,.int .i64 p.to.p,.int .i64 p.at_,.str p.text]]
    (fun r o=>∃ x,x=hear (cs.getD k default) b p∧r=.tup [.agg (Pk.row (x.2.getD .zero)),.bool x.2.isSome]∧o=[.arr 41 10 ((cs.set k x.1).map Conv.row)]):=by
  refine mP dg123 Tryz.ntmps123 ⟨_,_,_,rfl,rfl,rfl⟩ ?_
  have h1:=hp.at_
  have h2:=hp.len
  have h3:=hc.upGot
  have h4:=hc.downGot
  generalize hcc:cs.getD k default=c at *
  have g1:=c161 c.upGot p.at_ p.text (by omega) (by omega) (by omega)
  have g2:=c161 c.downGot p.at_ p.text (by omega) (by omega) (by omega)
  have hcc2:c=cs[k]:=by rw [← hcc];simp [List.getD,hk]
  have hset:∀ x:Conv,(cs.set k x).map Conv.row=(cs.map Conv.row).set k (Conv.row x):=fun x=>List.map_set
  have hsame:cs.set k c=cs:=by rw [hcc2];exact List.set_getElem_self hk
  clear hcc2
  have fin:∀ l mm (x:Conv × Option Pk),hear c b p=x→getL l 6=.pv 1006 0→getL l 7=.bool x.2.isSome→getH mm 1006=.var 54 (Pk.row (x.2.getD .zero))→getH mm 0=.arr 41 10 ((cs.set k x.1).map Conv.row) →
      retQ [.cell 6 7 true,.t 7] 1 (fun r o=>∃ x,x=hear c b p∧r=.tup [.agg (Pk.row (x.2.getD .zero)),.bool x.2.isSome]∧o=[.arr 41 10 ((cs.set k x.1).map Conv.row)]) .ret ⟨getL l,getH mm⟩:=fun l mm x h1 h2 h3 h4 h5=>by
    refine retN (.tup [.agg (Pk.row (x.2.getD .zero)),.bool x.2.isSome]) [.arr 41 10 ((cs.set k x.1).map Conv.row)] [] ?_ ⟨x,h1.symm,rfl,rfl⟩ ?_ (by simp [argH,getN]) (by simp only [go_sem])
    · simp only [go_sem,h2,h3,h4]
    · simp only [go_sem,h5]
  have gs:∀ R,((cs.map Conv.row).set k R).getD k []=R:=fun R=>by simp [List.getD,hk]
  simp only [ic123,go_sem]
  cases b<;>simp only [go_sem,getD_mp hk,hcc,E.ext_iff']
  all_goals
    with_reducible repeat' (first|refine br ?_ ?_<;>intro h e<;>(try simp only [e,go_sem,getD_mp hk,hcc,gs,E.ext_iff'])<;>clear e|rw [i64w (by omega)]|refine sd ?_<;>try simp only [go_sem,getD_mp hk,hcc,gs,E.ext_iff']|(first|refine cr (c115 ..) ?_|refine cr (g1 ..) ?_|refine cr (g2 ..) ?_)<;>try simp only [go_sem,getD_mp hk,hcc,gs,E.ext_iff']|fail)
  all_goals clear g1 g2
  all_goals clear gs hset hcc
  all_goals have hset:∀ x:Conv,(cs.set k x).map Conv.row=(cs.map Conv.row).set k (Conv.row x):=fun x=>List.map_set
  all_goals first
    | (refine fin _ _ (c,none) (by simp [hear, *]) ?_ ?_ ?_ ?_<;>simp only [go_sem,Option.isSome_none,Option.getD_none,Pk.zero,E.zero,hsame];done)
    | (refine fin _ _ ({ c with downAck:=max c.downAck (min p.at_ c.down.length) },none) (by simp [hear, *]) ?_ ?_ ?_ ?_<;>simp only [go_sem,Option.isSome_none,Option.getD_none,Pk.zero,E.zero,hset];done)
    | (refine fin _ _ ({ c with upAck:=max c.upAck (min p.at_ c.up.length) },none) (by simp [hear, *]) ?_ ?_ ?_ ?_<;>simp only [go_sem,Option.isSome_none,Option.getD_none,Pk.zero,E.zero,hset];done)
    | (refine fin _ _ ({ c with upGot:=(behind c.upGot p.at_ p.text).1 },some ⟨2,p.to,p.frm,(behind c.upGot p.at_ p.text).1.length,[]⟩) (by simp [hear, *]) ?_ ?_ ?_ ?_<;>simp only [go_sem,Option.isSome_some,Option.getD_some,hset];done)
    | (refine fin _ _ ({ c with downGot:=(behind c.downGot p.at_ p.text).1 },some ⟨2,p.to,p.frm,(behind c.downGot p.at_ p.text).1.length,[]⟩) (by simp [hear, *]) ?_ ?_ ?_ ?_<;>simp only [go_sem,Option.isSome_some,Option.getD_some,hset];done)
def ic68:IC:=sR [oP 4 (.mv (.c i0))] (.seq (.drw [0,1,3,7,15,0,32,96,224,0,992,2016,4064,8191,16383] [(0,mV 5 0),(1,oP 6 (.nilc (.t 5))),(2,fD 7 1 6),(3,fD 8 0 7),(4,lD 9 1 8),(5,mV 10 0),(6,oP 11 (.nilc (.t 10))),(7,fD 12 0 11),(8,lD 13 1 12),(9,mV 14 1),(10,oP 15 (.iad 10 (.t 13) (.t 14))),(11,fD 16 0 15),(12,lA 17 2 16),(13,oP 18 (.call 92 [.t 9,.t 17])),(14,mV 4 18)]) .ret)
theorem dg68:Dg Tryz.prog 68 Tryz.f68 ic68 [(.t 4)]:=⟨Tryz.func68,by kernel_rfl,by kernel_rfl⟩
theorem c68 (w:M.World) (k:Nat) (hk:k<w.convs.length) (hm:w.door.map.length≤2000000):FnP Tryz.prog G 68 4 [.var 33 [.own 2 w.convs.length,.sl 3 (w.door.map.map Pair.row),.own 1 w.door.flows.length,.own 3 w.nets.length],.arr 46 8 (w.door.flows.map Flw.row),.arr 41 10 (w.convs.map Conv.row),.arr 54 7 (w.nets.map Pk.row)] [.pv 0 0,.int .i64 (k:Int)] (fun r o=>r=.int .i64 (portOf w.door.map (w.convs.getD k default).ins)∧o=[.var 33 [.own 2 w.convs.length,.sl 3 (w.door.map.map Pair.row),.own 1 w.door.flows.length,.own 3 w.nets.length],.arr 46 8 (w.door.flows.map Flw.row),.arr 41 10 (w.convs.map Conv.row),.arr 54 7 (w.nets.map Pk.row)]):=by
  refine mP dg68 Tryz.ntmps68 ⟨_,_,rfl,rfl⟩ ?_
  generalize hc:w.convs.getD k default=c at *
  have f1:=c92 w.door.map c.ins.a c.ins.p hm
  simp only [ic68,go_sem]
  with_reducible repeat' (first|refine br ?_ ?_<;>intro h e<;>(try simp only [e,go_sem,getD_mp hk,hc])<;>clear e|rw [i64w (by omega)]|refine sd ?_<;>try simp only [go_sem,getD_mp hk,hc]|(first|refine cr (f1 ..) ?_)<;>try simp only [go_sem,getD_mp hk,hc]|fail)
  refine retN _ _ [] ?_ ⟨rfl,rfl⟩ ?_ (by simp [argH,getN]) (by simp only [go_sem])
  · simp only [go_sem]
  · simp only [go_sem]
def carryA (x:M.World × Option Pk) (r:V) (o:List Hs):Prop:=∃ q,r=.tup [.agg (Pk.row q),.bool x.2.isSome]∧(∀ q',x.2=some q'→q=q')∧o=[.var 33 [.own 2 x.1.convs.length,.sl 3 (x.1.door.map.map Pair.row),.own 1 x.1.door.flows.length,.own 3 x.1.nets.length],.arr 46 8 (x.1.door.flows.map Flw.row),.arr 41 10 (x.1.convs.map Conv.row),.arr 54 7 (x.1.nets.map Pk.row)]
theorem carryRet {x:M.World × Option Pk} {w:M.World} {o:Option Pk} {l:List (Nat × V)} {mm:List (Nat × Hs)} (q:Pk) (n1 n2 n3:Nat) (hx:x=(w,o)) (hq:∀ q',o=some q'→q=q') (h4:getL l 4=.pv 1004 0) (h5:getL l 5=.bool o.isSome) (m4:getH mm 1004=.var 54 (Pk.row q))
    (m0:getH mm 0=.var 33 [.own n2 w.convs.length,.sl 3 (w.door.map.map Pair.row),.own n1 w.door.flows.length,.own n3 w.nets.length])
    (m1:getH mm n1=.arr 46 8 (w.door.flows.map Flw.row)) (m2:getH mm n2=.arr 41 10 (w.convs.map Conv.row)) (m3:getH mm n3=.arr 54 7 (w.nets.map Pk.row))
    (hne:[0,n1,n2,n3].Nodup):retQ [.cell 4 7 true,.t 5] 1 (carryA x) .ret ⟨getL l,getH mm⟩:=by
  subst hx
  refine retN (.tup [.agg (Pk.row q),.bool o.isSome]) [.var 33 [.own 2 w.convs.length,.sl 3 (w.door.map.map Pair.row),.own 1 w.door.flows.length,.own 3 w.nets.length],.arr 46 8 (w.door.flows.map Flw.row),.arr 41 10 (w.convs.map Conv.row),.arr 54 7 (w.nets.map Pk.row)] [(1,n1),(2,n2),(3,n3)] ?_ ⟨q,rfl,hq,rfl⟩ ?_ (by simpa [argH,getN] using hne) (by simp only [go_sem])
  · simp only [go_sem,h4,h5,m4]
  · simp only [go_sem,m0,m1,m2,m3]
def ic69:IC:=sR [oP 3 (.box 54 (.t 1)),oP 4 (.alloc 54 [i0,i0,i0,i0,i0,i0,s0]),oP 5 (.mv (.c (.bool false)))] (.seq (sR [fD 9 3 3,lA 10 2 9,oP 11 (.call 115 [.t 10]),mV 12 11,⟨some 13,some (12,false),.fad 1 (.t 3)⟩,⟨some 14,some (12,false),.ld 2 true (.t 13)⟩,⟨some 15,some (12,false),.call 91 [.t 14]⟩,oP 16 (.pick (.t 12) (.c (.bool true)) (.t 15))] (.cond (.t 16) (.seq (.drw [0,1,3,0,15,31,31,127,255] [(0,mV 17 0),(1,oP 18 (.nilc (.t 17))),(2,fD 19 1 18),(3,lA 20 7 3),(4,oP 21 (.call 122 [.t 19,.t 20])),(5,eX 22 21 0),(6,eX 23 21 1),(7,nP (.sto 7 (.t 4) (.t 22))),(8,mV 5 23)]) .ret) .skip)) (.seq (sR [mV 24 0,oP 25 (.nilc (.t 24)),fD 26 0 25,lD 27 1 26,oP 28 (.len (.t 27)),oP 29 (.mv (.c i0))] (.block 0 (.loop (sR [bN 30 .lss 29 28] (.seq (.cond (.t 30) .skip (.exit 0)) (.seq (.block 1 (sR [mV 31 29,mV 6 31] (sR [mV 32 0,oP 33 (.nilc (.t 32)),fD 34 0 33,lD 35 1 34,mV 36 6,oP 37 (.iad 10 (.t 35) (.t 36)),mV 7 37] (.seq (.drw [0,1,0,4,12,28,63,127,255,511,255,1279,3327,7423,16383,32767,65535] [(0,fD 38 3 3),(1,lA 39 2 38),(2,mV 40 7),(3,oP 41 (.nilc (.t 40))),(4,fD 42 0 41),(5,lA 43 2 42),(6,oP 44 (.eqs false [.i,.i] (.t 39) (.t 43))),(7,mV 45 44),(8,⟨some 46,some (45,true),.fad 1 (.t 3)⟩),(9,⟨some 47,some (45,true),.ld 2 true (.t 46)⟩),(10,⟨some 48,some (45,true),.mv (.t 7)⟩),(11,⟨some 49,some (45,true),.nilc (.t 48)⟩),(12,⟨some 50,some (45,true),.fad 2 (.t 49)⟩),(13,⟨some 51,some (45,true),.ld 2 true (.t 50)⟩),(14,⟨some 52,some (45,true),.eqs false [.i,.i] (.t 47) (.t 51)⟩),(15,oP 53 (.pick (.t 45) (.t 52) (.c (.bool false)))),(16,mV 8 53)]) (.seq (.drw [0,1,3,7,3,19,51,115,255,511,1023,2047,4095,8191,16383,32767,65535,131071,32767,32767,819199,2097151,4194303,8388607] [(0,mV 54 8),(1,mV 55 54),(2,⟨some 56,some (55,false),.fad 3 (.t 3)⟩),(3,⟨some 57,some (55,false),.ld 2 true (.t 56)⟩),(4,⟨some 58,some (55,false),.mv (.t 7)⟩),(5,⟨some 59,some (55,false),.nilc (.t 58)⟩),(6,⟨some 60,some (55,false),.fad 2 (.t 59)⟩),(7,⟨some 61,some (55,false),.ld 2 true (.t 60)⟩),(8,⟨some 62,some (55,false),.eqs false [.i,.i] (.t 57) (.t 61)⟩),(9,⟨some 63,some (55,false),.mv (.t 62)⟩),(10,⟨some 64,some (63,true),.fad 1 (.t 3)⟩),(11,⟨some 65,some (63,true),.ld 2 true (.t 64)⟩),(12,⟨some 66,some (63,true),.call 115 [.t 65]⟩),(13,⟨some 67,some (55,false),.pick (.t 63) (.t 66) (.c (.bool false))⟩),(14,⟨some 68,some (55,false),.mv (.t 67)⟩),(15,⟨some 69,some (68,true),.fad 1 (.t 3)⟩),(16,⟨some 70,some (68,true),.fad 1 (.t 69)⟩),(17,⟨some 71,some (68,true),.ld 1 false (.t 70)⟩),(18,⟨some 72,some (68,true),.mv (.t 0)⟩),(19,⟨some 73,some (68,true),.mv (.t 6)⟩),(20,⟨some 74,some (68,true),.call 68 [.t 72,.t 73]⟩),(21,⟨some 75,some (68,true),.bin .eql (.t 71) (.t 74)⟩),(22,⟨some 76,some (55,false),.pick (.t 68) (.t 75) (.c (.bool false))⟩),(23,oP 77 (.pick (.t 55) (.c (.bool true)) (.t 76)))]) (.cond (.t 77) (sR [mV 78 7,mV 79 8,lA 80 7 3,oP 81 (.call 123 [.t 78,.t 79,.t 80]),eX 82 81 0,eX 83 81 1,nP (.sto 7 (.t 4) (.t 82)),mV 5 83] .ret) .skip)))))) (.reg [oP 84 (.bin .add (.t 29) (.c (.int .i64 1))),mV 29 84]))))))) (sR [oP 85 (.build [i0,i0,i0,i0,i0,i0,s0] []),nP (.sto 7 (.t 4) (.t 85)),oP 5 (.mv (.c (.bool false)))] .ret)))
theorem dg69:Dg Tryz.prog 69 Tryz.f69 ic69 [(.cell 4 7 true),(.t 5)]:=⟨Tryz.func69,by kernel_rfl,by kernel_rfl⟩
set_option maxHeartbeats 1000000 in
theorem x69 {X:List (E × E)} (w:M.World) (p:Pk) (hw:WX X w) (hp:PkP p):FnP Tryz.prog G 69 1 [.var 33 [.own 2 w.convs.length,.sl 3 (w.door.map.map Pair.row),.own 1 w.door.flows.length,.own 3 w.nets.length],.arr 46 8 (w.door.flows.map Flw.row),.arr 41 10 (w.convs.map Conv.row),.arr 54 7 (w.nets.map Pk.row)] [.pv 0 0,.agg [.int .i64 p.kind,.int .i64 p.frm.a,.int .i64 p.frm.p,.int .i64 p.to.a,.int .i64 p.to.p,.int .i64 p.at_,.str p.text]] (carryA (carry w p)):=by
  refine mP dg69 Tryz.ntmps69 ⟨_,_,(carry w p).2.getD .zero,rfl,fun q' h=>by rw [h];rfl,rfl⟩ ?_
  have hml:=(mapOk_ports (doorOk_iff.1 hw.door).1).2
  have hcl:=hw.cl
  have hdoor:(p.to.door=true∨p.frm.inside=true)→carry w p=({ w with door:=(dPass w.door p).1 },(dPass w.door p).2):=fun h=>carry_door (by simpa using h)
  simp only [ic69,go_sem]
  with_reducible repeat' (first|refine br ?_ ?_<;>intro h e<;>(try simp only [e,go_sem])<;>clear e|rw [i64w (by omega)]|refine sd ?_<;>try simp only [go_sem]|(first|refine cr (c115 ..) ?_|refine cr (c91 ..) ?_)<;>try simp only [go_sem]|fail)
  · refine callN (w122 w w.door p hw.door hp) [0,1,2,3] [] true 21 4 (by simp only [go_sem];first|done|simp) (by simp only [go_sem];first|done|simp) (by simp) (by simp) (by simp) ?_ ?_ ?_
    · rintro res out ⟨q,rfl,hq,rfl⟩
      exact ⟨by simp,by simp,.inl rfl,fun i hi=>by obtain rfl:i=0:=(by omega);simp [chH,stepOk]⟩
    · intro i hi
      rcases (show i=0∨i=1∨i=2∨i=3 by omega) with rfl|rfl|rfl|rfl<;>simp only [go_sem]
    rintro res out ⟨q,rfl,hq,rfl⟩
    simp only [go_sem]
    with_reducible repeat' (first|refine br ?_ ?_<;>intro h e<;>(try simp only [e,go_sem])<;>clear e|rw [i64w (by omega)]|refine sd ?_<;>try simp only [go_sem]|fail)
    refine carryRet (w:={ w with door:=(dPass w.door p).1 }) (o:=(dPass w.door p).2) q 102101 102102 102103 (hdoor (.inl (by assumption))) hq ?_ ?_ ?_ ?_ ?_ ?_ ?_ (by decide)<;>simp only [go_sem]
  · refine callN (w122 w w.door p hw.door hp) [0,1,2,3] [] true 21 4 (by simp only [go_sem];first|done|simp) (by simp only [go_sem];first|done|simp) (by simp) (by simp) (by simp) ?_ ?_ ?_
    · rintro res out ⟨q,rfl,hq,rfl⟩
      exact ⟨by simp,by simp,.inl rfl,fun i hi=>by obtain rfl:i=0:=(by omega);simp [chH,stepOk]⟩
    · intro i hi
      rcases (show i=0∨i=1∨i=2∨i=3 by omega) with rfl|rfl|rfl|rfl<;>simp only [go_sem]
    rintro res out ⟨q,rfl,hq,rfl⟩
    simp only [go_sem]
    with_reducible repeat' (first|refine br ?_ ?_<;>intro h e<;>(try simp only [e,go_sem])<;>clear e|rw [i64w (by omega)]|refine sd ?_<;>try simp only [go_sem]|fail)
    refine carryRet (w:={ w with door:=(dPass w.door p).1 }) (o:=(dPass w.door p).2) q 102101 102102 102103 (hdoor (.inr (by assumption))) hq ?_ ?_ ?_ ?_ ?_ ?_ ?_ (by decide)<;>simp only [go_sem]
  rw [carry_host (by simp [*])]
  clear hdoor
  refine loopN (fun k:Nat=>⟨getL [(0,.pv 0 0),(3,.pv 1003 0),(4,.pv 1004 0),(28,.int .i64 w.convs.length),(29,.int .i64 (k:Int))],getH [(0,.var 33 [.own 2 w.convs.length,.sl 3 (w.door.map.map Pair.row),.own 1 w.door.flows.length,.own 3 w.nets.length]),(1,.arr 46 8 (w.door.flows.map Flw.row)),(2,.arr 41 10 (w.convs.map Conv.row)),(3,.arr 54 7 (w.nets.map Pk.row)),(1003,.var 54 [.int .i64 p.kind,.int .i64 p.frm.a,.int .i64 p.frm.p,.int .i64 p.to.a,.int .i64 p.to.p,.int .i64 p.at_,.str p.text]),(1004,.var 54 [.int .i64 0,.int .i64 0,.int .i64 0,.int .i64 0,.int .i64 0,.int .i64 0,.str []])]⟩)
    (fun k=>w.convs.length - k) (fun k=>k≤w.convs.length∧(w.convs.take k).any (matchC w p)=false) 0 (leQ []) ⟨Nat.zero_le _,by simp⟩ ?_
  intro k ⟨hk,ha⟩
  simp only [go_sem]
  by_cases h:(k:Int)<w.convs.length
  · have hil:k<w.convs.length:=by omega
    have hg:w.convs.getD k default=w.convs[k]:=by simp [List.getD,hil]
    have hat:=hostR_at (w:=w) (p:=p) hil ha
    have hstep:=any_step hil ha
    have hB:=convOk_B (hw.cv _ (List.getElem_mem hil))
    rw [matchC_e] at hat hstep
    have fp:=c68 w k hil (by omega)
    have ft:=c123 w.convs k true p hil (by rw [hg];exact hB) hp
    have ff:=c123 w.convs k false p hil (by rw [hg];exact hB) hp
    rw [hg] at fp ft ff
    simp only [eq_true h,go_sem]
    generalize hc:w.convs[k]=c at *
    generalize hinw:(decide (p.to=c.ins) && decide (p.frm=c.out))=inw at *
    with_reducible repeat' (first|refine br ?_ ?_<;>intro h e<;>(try simp only [e,go_sem,getD_mp hil,hg,E.ext_iff'])<;>clear e|rw [i64w (by omega)]|refine sd ?_<;>try simp only [go_sem,getD_mp hil,hg,E.ext_iff']|(first|refine cr (c115 ..) ?_)<;>try simp only [go_sem,getD_mp hil,hg,E.ext_iff']|fail)
    all_goals try (
      refine callN fp [0,1,2,3] [] true 74 4 (by simp only [go_sem];first|done|simp) (by simp only [go_sem];first|done|simp) (by simp) (by simp) (by simp) ?_ ?_ ?_
      · rintro _ _ ⟨rfl,rfl⟩
        exact ⟨by simp,by simp,.inl rfl,fun i hi=>by rcases (show i=0∨i=1∨i=2∨i=3 by omega) with rfl|rfl|rfl|rfl<;>simp [chH,stepOk]⟩
      · intro i hi
        rcases (show i=0∨i=1∨i=2∨i=3 by omega) with rfl|rfl|rfl|rfl<;>simp only [go_sem]
      rintro _ _ ⟨rfl,rfl⟩
      simp only [go_sem]
      with_reducible repeat' (first|refine br ?_ ?_<;>intro h e<;>(try simp only [e,go_sem,getD_mp hil,hg,E.ext_iff'])<;>clear e|rw [i64w (by omega)]|refine sd ?_<;>try simp only [go_sem,getD_mp hil,hg,E.ext_iff']|(first|refine cr (c115 ..) ?_)<;>try simp only [go_sem,getD_mp hil,hg,E.ext_iff']|fail)
      )
    all_goals clear fp
    all_goals first
      | (refine ⟨k+1,by omega,⟨by omega,hstep ?_⟩,(leQ [])⟩
         clear ft ff
         simp_all;done)
      | (refine callN ft [2] [] true 81 1 (by simp only [go_sem];first|done|simp) (by simp only [go_sem];first|done|simp) (by simp) (by simp) (by simp) ?_ ?_ ?_
         · rintro _ _ ⟨x,rfl,rfl,rfl⟩
           exact ⟨by simp,by simp,.inl rfl,fun i hi=>by obtain rfl:i=0:=(by omega);simp [chH,stepOk]⟩
         · intro i hi;obtain rfl:i=0:=(by omega);simp only [go_sem]
         rintro _ _ ⟨x,hx,rfl,rfl⟩
         clear ft ff
         simp only [go_sem]
         with_reducible repeat' (first|refine br ?_ ?_<;>intro h e<;>(try simp only [e,go_sem])<;>clear e|rw [i64w (by omega)]|refine sd ?_<;>try simp only [go_sem]|fail)
         have hi:inw=true:=by clear hx;simp_all
         have hh:=hat (by clear hx;simp_all)
         rw [hi,← hx] at hh
         refine carryRet (w:={ w with convs:=w.convs.set k x.1 }) (o:=x.2) (x.2.getD .zero) 1 2 3 hh (fun q' h=>by rw [h];rfl) ?_ ?_ ?_ ?_ ?_ ?_ ?_ (by decide)
         all_goals simp only [go_sem,List.length_set]
         done)
      | (refine callN ff [2] [] true 81 1 (by simp only [go_sem];first|done|simp) (by simp only [go_sem];first|done|simp) (by simp) (by simp) (by simp) ?_ ?_ ?_
         · rintro _ _ ⟨x,rfl,rfl,rfl⟩
           exact ⟨by simp,by simp,.inl rfl,fun i hi=>by obtain rfl:i=0:=(by omega);simp [chH,stepOk]⟩
         · intro i hi;obtain rfl:i=0:=(by omega);simp only [go_sem]
         rintro _ _ ⟨x,hx,rfl,rfl⟩
         clear ft ff
         simp only [go_sem]
         with_reducible repeat' (first|refine br ?_ ?_<;>intro h e<;>(try simp only [e,go_sem])<;>clear e|rw [i64w (by omega)]|refine sd ?_<;>try simp only [go_sem]|fail)
         have hi:inw=false:=by clear hx;simp_all
         have hh:=hat (by clear hx;simp_all)
         rw [hi,← hx] at hh
         refine carryRet (w:={ w with convs:=w.convs.set k x.1 }) (o:=x.2) (x.2.getD .zero) 1 2 3 hh (fun q' h=>by rw [h];rfl) ?_ ?_ ?_ ?_ ?_ ?_ ?_ (by decide)
         all_goals simp only [go_sem,List.length_set]
         done)
  · simp only [eq_false h,go_sem]
    have:k=w.convs.length:=by omega
    subst this
    rw [List.take_length] at ha
    rw [hostR_no ha]
    refine carryRet .zero 1 2 3 rfl (fun q' h=>by cases h) ?_ ?_ ?_ ?_ ?_ ?_ ?_ (by decide)<;>simp only [go_sem,Option.isSome_none,Pk.zero,E.zero]
end Go.Proofs.YtggifndkolojmaaGreatDoor.W
namespace Go.Proofs.YtggifndkolojmaaGreatDoor.W
open Go Go.RowKit Go.Proofs Go.Proofs.YtggifndkolojmaaGreatDoor.VL
theorem run_clear_one {P:Program} (w:World) (t e ty:TypeId) (z:Value) (ht:P.underlying t=some (.slice e)) (hv:∀ w,(zeroValue e).run P w=.ok z w) (h1:∀ u,u∈z.cells.toList→u.oneCell'=true) (b o c:Nat)
    (hc:∀ j,j<z.cells.toList.length→(w.cell? ⟨b,o+j,none⟩).isSome=true) (hf:∀ j,j<z.cells.toList.length→w.frozen? ⟨b,o+j,none⟩=false) :
    (Builtin.clear_ #[t] ty #[.slice (some ⟨b,o,none⟩) 1 c]).run P w=.ok (.tuple #[]) (w.setCells b o z.cells.toList):=by
  have hzc:(Builtin.zeroCells z.cells 1).toList=z.cells.toList:=by
    simp only [Builtin.zeroCells]
    apply List.ext_getElem
    · simp
    · intro i h1 h2
      simp at h1 h2 ⊢
      have e:i % z.cells.size=i:=Nat.mod_eq_of_lt h2
      simp [e,h2]
  have hst:=run_storeCells_cells (P:=P) b o z.cells.toList 0 w (by simpa using hc) (by simpa using hf) h1
  simp only [Nat.add_zero] at hst
  simp [Builtin.clear_,run_underlying ht,hv,hzc,hst]
set_option maxRecDepth 100000
set_option maxHeartbeats 4000000
theorem m124 (blk off cap n k j:Nat) (us:List Value) (w:World) (hl:us.length=n * 7) (hcl:∀ (t:Nat) u,us[t]?=some u→w.cell? ⟨blk,off+t,none⟩=some u) (hone:∀ u,u∈us→u.oneCell'=true)
    (hfz:∀ t,t<n * 7→w.frozen? ⟨blk,off+t,none⟩=false) (hcap:n≤cap) (hk:k<n) (hj:j=k+1) :
    Calls Tryz.prog 124 #[.slice (some ⟨blk,off,none⟩) n cap,.int .i64 k,.int .i64 (j:Int)] w fun e w'=>e=.returned (.slice (some ⟨blk,off,none⟩) (n - 1) cap) ∧
      w'=((w.drew.setCells blk (off+k * 7) (us.drop (j * 7))).setCells blk (off+(n - 1) * 7) [.int .i64 0,.int .i64 0,.int .i64 0,.int .i64 0,.int .i64 0,.int .i64 0,.string ⟨#[]⟩]):=by
  have t27:Tryz.prog.underlying 31=some (.slice 54):=by kernel_rfl
  obtain ⟨i0,z0,hi,hz,hs,hzs,hb⟩:=infoP (P:=Tryz.prog) (t:=54) (sz:=7) (by kernel_rfl)
  have hlt:k<j:=by omega
  obtain ⟨news,hnews⟩:∃ news,news=us.drop (j * 7):=⟨_,rfl⟩
  have hlen:news.length=(n - j) * 7:=by rw [hnews];simp;omega
  obtain ⟨A,hA,hsrc⟩:∃ A:Addr,(if cap=j then some (⟨blk,off,none⟩:Addr) else some ⟨blk,off+j * 7,none⟩)=some A∧Hid (∀ (t:Nat) u,news[t]?=some u→w.drew.cell? (A.add t)=some u):=by
    by_cases h:cap=j
    · refine ⟨⟨blk,off,none⟩,by simp [h],fun t u hu=>?_⟩
      have h0:news.length=0:=by rw [hlen];omega
      rw [List.length_eq_zero_iff.1 h0] at hu
      simp at hu
    · refine ⟨⟨blk,off+j * 7,none⟩,by simp [h],fun t u hu=>?_⟩
      rw [hnews,List.getElem?_drop] at hu
      rw [Addr.add_lit,Nat.add_assoc]
      exact hcl _ u hu
  have s1:Hid (news.length=(n - j) * 7):=hlen
  have s2:Hid (∀ u∈news,u.oneCell'=true):=fun u hu=>hone u (by rw [hnews] at hu;exact List.mem_of_mem_drop hu)
  have s3:Hid (∀ t,t<news.length→(w.drew.cell? ⟨blk,off+k * 7+t,none⟩).isSome=true∧w.drew.frozen? ⟨blk,off+k * 7+t,none⟩=false):=by
    intro t ht
    rw [hlen] at ht
    have hlt:k * 7+t<us.length:=by rw [hl];omega
    rw [Nat.add_assoc]
    refine ⟨?_,hfz _ (by omega)⟩
    show (w.cell? _).isSome=true
    rw [hcl (k * 7+t) _ (List.getElem?_eq_getElem hlt)]
    rfl
  obtain ⟨W1,hW1⟩:∃ W1,W1=w.drew.setCells blk (off+k * 7) news:=⟨_,rfl⟩
  have hz':∀ w,(zeroValue 54).run Tryz.prog w=.ok (.agg #[.int .i64 0,.int .i64 0,.int .i64 0,.int .i64 0,.int .i64 0,.int .i64 0,.string ⟨#[]⟩]) w:=fun w=>by kernel_rfl
  have hcl2:∀ ty,(Builtin.clear_ #[31] ty #[.slice (some ⟨blk,off+(k+(n - j)) * 7,none⟩) (n - (k+(n - j))) (cap - (k+(n - j)))]).run Tryz.prog W1=.ok (.tuple #[]) (W1.setCells blk (off+(k+(n - j)) * 7) [.int .i64 0,.int .i64 0,.int .i64 0,.int .i64 0,.int .i64 0,.int .i64 0,.string ⟨#[]⟩]):=fun ty=>by
    rw [show n - (k+(n - j))=1 by omega]
    refine run_clear_one W1 _ _ ty _ t27 hz' (by simp [Value.cells,Value.oneCell']) blk _ _ (fun j' hj'=>?_) (fun j' hj'=>?_)
    · have hlt:(n - 1) * 7+j'<us.length:=by rw [hl];simp [Value.cells] at hj';omega
      have e:off+(k+(n - j)) * 7+j'=off+((n - 1) * 7+j'):=by rw [show k+(n - j)=n - 1 by omega];omega
      rw [e,hW1,World.cell?_setCells_out _ _ _ _ _ (fun _ _=>.inr (by rw [hlen];simp only;omega))]
      show (w.cell? _).isSome=true
      rw [hcl _ _ (List.getElem?_eq_getElem hlt)]
      rfl
    · have e:off+(k+(n - j)) * 7+j'=off+((n - 1) * 7+j'):=by rw [show k+(n - j)=n - 1 by omega];omega
      rw [e,hW1,World.frozen?_setCells]
      exact hfz _ (by simp [Value.cells] at hj';omega)
  have hW:Hid (W1=w.drew.setCells blk (off+k * 7) news):=hW1
  have hkc:k≤cap:=by omega
  have hkc1:j≤cap:=by omega
  have hjn:j≤n:=by omega
  have hx:Hid (j=k+1∧news=us.drop (j * 7)):=⟨hj,hnews⟩
  clear hW1 hnews hlen hcl hfz hone hj
  go_enter Tryz.func124,Tryz.ntmps124
  go_wp2_with fail
  go_region_law (refine step_append_room rfl (.tmp 22) (.tmp 25) 31 rfl 54 i0 7 t27 hi hs blk off k cap (by simp [Act.eval,Act.put]) A (n - j) (cap - j) news (by simp [Act.eval,Act.put,hA]) s1.out hsrc.out s2.out (by omega) s3.out ?_;rw [← hW.out])
  go_wp2
  go_ret
  have e2:k+(n - j)=n - 1:=by have:=hx.out.1;omega
  refine ⟨by simp [e2],by rw [hW.out,hx.out.2,e2]⟩
theorem map_eraseIdx {α β:Type} (f:α→β):∀ (l:List α) (k:Nat),(l.map f).eraseIdx k=(l.eraseIdx k).map f
  | [],_=>rfl
  | _ :: _,0=>rfl
  | a :: l,k+1=>by simp [map_eraseIdx f l k]
def DelM (P:Program) (f:FuncId) (sz:Nat) (zr:List Value):Prop:=∀ (blk off cap n k j:Nat) (us:List Value) (w:World),us.length=n * sz→(∀ (t:Nat) u,us[t]?=some u→w.cell? ⟨blk,off+t,none⟩=some u)→(∀ u,u∈us→u.oneCell'=true) →
  (∀ t,t<n * sz→w.frozen? ⟨blk,off+t,none⟩=false)→n≤cap→k<n→j=k+1 →
  Calls P f #[.slice (some ⟨blk,off,none⟩) n cap,.int .i64 k,.int .i64 (j:Int)] w fun e w'=>e=.returned (.slice (some ⟨blk,off,none⟩) (n - 1) cap)∧w'=((w.drew.setCells blk (off+k * sz) (us.drop (j * sz))).setCells blk (off+(n - 1) * sz) zr)
theorem us_three {w:World} {O:Nat→Prop} {ρ:Nat→VL.Loc} {h:Nat→Hs} {a b c:V} {us:List Value} (hargs:DenArgs w O ρ h [a,b,c] us):∃ x y z,us=[x,y,z]∧Den w O ρ h a x∧Den w O ρ h b y∧Den w O ρ h c z:=by
  obtain ⟨h1,h2⟩:=hargs
  match us,h1 with
  | [x,y,z],_=>exact ⟨x,y,z,rfl,h2 0 _ _ rfl rfl,h2 1 _ _ rfl rfl,h2 2 _ _ rfl rfl⟩
set_option maxHeartbeats 400000
theorem deleteOwn {P:Program} {G:Glob} {f:FuncId} (hn:entr P f=true) {sz:Nat} {zr:List Value} (h:DelM P f sz zr) (hzr:zr.length=sz) (ty:Nat) (rows:List (List V)) (n k:Nat) (hrn:rows.length=n) (hk:k<n) :
    FnP P G f 0 [.arr ty sz rows] [.own 0 n,.int .i64 (k:Int),.int .i64 ((k:Int)+1)] (fun r o=>r=.own 0 (n - 1)∧o=[.arr ty sz (rows.eraseIdx k)]) where
  en:=hn
  ne:=⟨_,_,rfl,rfl⟩
  run:=fun W ρ ext us0 hg hlt hno hng r hargs=>by
    obtain ⟨u,u1,u2,rfl,hd,hd1,hd2⟩:=us_three hargs
    have e1:=inv_int hd1
    have e2:=inv_int hd2
    subst e1 e2
    have h0:∀ R,chH [Hs.arr ty sz R] 0=.arr ty sz R:=fun _=>rfl
    have h1:∀ R c,c≠0→chH [Hs.arr ty sz R] c=.fresh:=fun R c hc=>by
      match c,hc with
      | c+1,_=>simp [chH]
    have hl:∀ R c,(chH [Hs.arr ty sz R] c).live=true→c=0:=fun R c hc=>by
      by_cases h':c=0
      · exact h'
      · rw [h1 R c h'] at hc;cases hc
    have hl0:∀ R,(chH [Hs.arr ty sz R] 0).live=true:=fun R=>rfl
    have hd:u=(ρ 0).sl n:=by
      simp only [Den,Den2,Den1,Den0,h0] at hd
      exact hd
    subst hd
    have hch:=r.chunk 0
    rw [h0] at hch
    rcases hch with ⟨_,e,_⟩|⟨hnil,cs,hcs,hsz,hcap,hrl,hrows⟩
    · rw [e] at hrn;simp at hrn;omega
    have hlt0:(ρ 0).blk<W.heap.size:=lt_of_get hcs
    have hown:owns ⟨W,blocks ρ (chH [.arr ty sz rows]),ext,0,ρ⟩ ρ (chH [.arr ty sz rows]) (ρ 0).blk:=.inr ⟨0,hl0 _,hnil,rfl⟩
    obtain ⟨us,hu1,hu2,hu3,hu4⟩:=rows_flat (w:=W) (rows:=rows) (sz:=sz) (blk:=(ρ 0).blk) (off:=(ρ 0).off) hrl (fun i x j y hx hy=>by
      obtain ⟨z,hz1,hz2⟩:=hrows i x j y hx hy
      exact ⟨z,cell_at _ _ _ _ _ _ _ hcs hz1,hz2⟩)
    have hsl:(ρ 0).sl n=.slice (some ⟨(ρ 0).blk,(ρ 0).off,none⟩) n (ρ 0).cap:=by simp [VL.Loc.sl,VL.Loc.addr,hnil]
    rw [hrn] at hu1
    have hcell:∀ (t:Nat) u,us[t]?=some u→W.cell? ⟨(ρ 0).blk,(ρ 0).off+t,none⟩=some u:=fun t u hu=>by
      have:=hu2 t u hu
      rwa [Addr.add_lit] at this
    have run:=h (ρ 0).blk (ρ 0).off (ρ 0).cap n k (k+1) us W hu1 hcell hu3 (fun t ht=>by simp [World.frozen?,hcs]) (by omega) hk rfl
    rw [hsl]
    have ecast:((k+1:Nat):Int)=(k:Int)+1:=by omega
    rw [ecast] at run
    refine run.mono fun e w' ⟨he,hw⟩=>?_
    have hn1:(n - 1) * sz+sz=n * sz:=by rw [← Nat.succ_mul];congr 1;omega
    have hk1:(k+1) * sz=k * sz+sz:=Nat.succ_mul k sz
    have hkn:(k+1) * sz≤n * sz:=Nat.mul_le_mul_right _ hk
    have hcapn:n * sz≤(ρ 0).cap * sz:=Nat.mul_le_mul_right _ (by omega)
    have hdl:(us.drop ((k+1) * sz)).length=n * sz - (k+1) * sz:=by simp [hu1]
    obtain ⟨a1,a2,a3,a4,a5⟩:=setCells_frame (ρ 0).blk (us.drop ((k+1) * sz)) ((ρ 0).off+k * sz) W.drew
    obtain ⟨b1,b2,b3,b4,b5⟩:=setCells_frame (ρ 0).blk zr ((ρ 0).off+(n - 1) * sz) (W.drew.setCells (ρ 0).blk ((ρ 0).off+k * sz) (us.drop ((k+1) * sz)))
    obtain ⟨c1,m1,m2,m3⟩:=setCells_block (ρ 0).blk ty (0,0) (us.drop ((k+1) * sz)) ((ρ 0).off+k * sz) W.drew cs hcs (by rw [hdl];omega)
    obtain ⟨c2,n1,n2,n3⟩:=setCells_block (ρ 0).blk ty (0,0) zr ((ρ 0).off+(n - 1) * sz) _ c1 m1 (by rw [hzr,m2];omega)
    rw [← hw] at b1 b2 b3 b4 b5 n1
    have bel:∀ b,b≠(ρ 0).blk→w'.heap[b]?=W.heap[b]?:=fun b hb=>(b5 b hb).trans (a5 b hb)
    have hsize:w'.heap.size=W.heap.size:=b4.trans a4
    refine ⟨_,_,_,ρ,he,⟨rfl,rfl⟩,⟨(b1.trans a1).trans r.os,(b2.trans a2).trans r.tape,(b3.trans a3).trans r.output,by rw [hsize];exact r.grow,fun b hb1 hb2=>(bel b fun hx=>hb2 ⟨0,hl0 _,by rw [hx];exact ⟨hnil,rfl⟩⟩).trans (r.keep b hb1 hb2),fun c=>?_,fun c hc hnl=>?_,fun c c' hc hc' _ _ _=>(hl _ c hc).trans (hl _ c' hc').symm,fun i hi=>absurd hi (Nat.not_lt_zero _)⟩, ?_⟩
    · by_cases hc:c=0
      · subst hc
        rw [h0]
        refine .inr ⟨hnil,c2,n1,by rw [n2,m2];exact hsz,by rw [List.length_eraseIdx];split<;>omega,fun x hx=>hrl x (List.mem_of_mem_eraseIdx hx),fun i x j y hx hy=>?_⟩
        have hjs:j<sz:=by
          have:=hrl x (List.mem_of_mem_eraseIdx (List.mem_of_getElem? hx))
          have h2:=(List.getElem?_eq_some_iff.1 hy).1
          omega
        have him:i<n - 1:=by
          have:=(List.getElem?_eq_some_iff.1 hx).1
          rw [List.length_eraseIdx] at this
          split at this<;>omega
        have him2:(i+1) * sz≤(n - 1) * sz:=Nat.mul_le_mul_right _ him
        have hi1:(i+1) * sz=i * sz+sz:=Nat.succ_mul i sz
        have tail:∀ q z,us[q * sz+j]?=some z→Imm W (owns ⟨W,blocks ρ (chH [.arr ty sz rows]),ext,0,ρ⟩ ρ (chH [.arr ty sz rows])) y z→Imm w' (owns ⟨W,blocks ρ (chH [.arr ty sz rows]),ext,0,ρ⟩ ρ (chH [.arr ty sz (rows.eraseIdx k)])) y z:=fun q z _ hz=>by
          refine hz.mono (Nat.le_of_eq hsize.symm) (fun b hb1 hb2=>bel b fun hx=>hb2 (hx▸hown)) fun b hb1 ho=>?_
          rcases ho with ho|⟨c,hc,hnl,hb⟩
          · exact .inl ho
          · obtain rfl:=hl _ c hc
            exact .inr ⟨0,hl0 _,hnl,hb⟩
        rw [n3,if_neg (by omega),m3]
        rw [List.getElem?_eraseIdx] at hx
        by_cases hik:i<k
        · rw [if_pos hik] at hx
          have hi2:(i+1) * sz≤k * sz:=Nat.mul_le_mul_right _ hik
          obtain ⟨z,hz1,hz2⟩:=hu4 i x j y hx hy
          refine ⟨z, ?_,tail i z hz1 hz2⟩
          rw [if_neg (by omega)]
          have:=hcell _ _ hz1
          simpa [World.cell?,hcs] using this
        · rw [if_neg hik] at hx
          have hi2:k * sz≤i * sz:=Nat.mul_le_mul_right _ (by omega)
          obtain ⟨z,hz1,hz2⟩:=hu4 (i+1) x j y hx hy
          refine ⟨z, ?_,tail (i+1) z hz1 hz2⟩
          rw [if_pos (by rw [hdl];omega),List.getElem?_drop]
          rw [← hz1]
          congr 1
          omega
      · rw [h1 _ c hc];trivial
    · obtain rfl:=hl _ c hc
      exact r.home 0 (hl0 _) hnl
    · simp only [Den,Den2,Den1,Den0,h0]
      exact (by simp [VL.Loc.sl,VL.Loc.addr,hnil])
theorem e124:entr Tryz.prog 124=true:=by kernel_rfl
theorem o124 (ps:List M.Pk) (k:Nat) (hk:k<ps.length):FnP Tryz.prog G 124 0 [.arr 54 7 (ps.map M.Pk.row)] [.own 0 ps.length,.int .i64 (k:Int),.int .i64 ((k:Int)+1)] (fun r o=>r=.own 0 (ps.length - 1)∧o=[.arr 54 7 ((ps.eraseIdx k).map M.Pk.row)]):=by
  have:=deleteOwn (G:=G) e124 m124 rfl 54 (ps.map M.Pk.row) ps.length k (by simp) hk
  rw [map_eraseIdx] at this
  exact this
end Go.Proofs.YtggifndkolojmaaGreatDoor.W
namespace Go.Proofs.YtggifndkolojmaaGreatDoor.W
open Go Go.RowKit Go.Proofs Go.Proofs.YtggifndkolojmaaGreatDoor.VL Go.Proofs.YtggifndkolojmaaGreatDoor.M
attribute [local congr] optK_congr guardK_congr condK_congr runT_congr runD_congr wpI_congr CallV_congr LoopI_congr pureK_congr effK_congr calK_congr stepV_congr doV_congr exN_congr exB_congr retF_congr retQ_congr gK_congr condW_congr ldK_congr stoK_congr
attribute [local go_sem] argL_cons argL_nil argH_nil argH_cons chH_getH wpI_seq wpI_reg wpI_drw wpI_ret cond_k condW_t condW_f wpI_skip wpI_block wpI_exit wpI_loop exN_n exN_r exN_e exB_n exB_r exB_h exB_m runT_k kT_e runT_nil runD_k kD_e runD_nil step_u step_k gK_t gK_f do_mv do_bino bo_add bo_sub bo_mul bo_subu bo_quo bo_rem bo_xor bo_eql bo_neq bo_lss bo_leq bo_gtr bo_geq bo_cat bo_eqs bo_nes do_pick do_call do_cal calK_f do_box do_alloc do_ldk ldK_s do_stok stoK_s do_fad do_nilc do_not do_neg do_len do_lens do_ext do_eqs do_beq do_isn do_cvi do_sls do_idx do_mn do_mx do_build do_mkf do_s2b do_b2s do_slv do_iad do_bsl do_mks do_app ev_t ev_c app_some app_none
attribute [local go_sem] List.nil_append List.cons_append List.append_nil getL_hit getL_miss getH_nil getH_hit getH_miss nm_eq ne_eq Nat.reduceEqDiff not_false_eq_true Nat.reduceAdd Nat.add_zero Nat.zero_add if_true if_false ite_true ite_false pureK_s effK_s optK_s gdV_t gdV_f gdV_s pick_b ge_iff_le gt_iff_lt cond_true cond_false fresh_k cells_agg cells_int cells_bool cells_str cells_own cells_sl cells_nils ld_pv ld_pa ld_ip ldVar_t ldVar_f ldArr_t ldArr_f ldRow_t ldRow_f ldA_s ld1_s fad_pv fad_pa fad_ip nilc_pv nilc_pa nilc_ip not_b neg_i cvi_i ext_t retF_n retF_r
attribute [local go_sem] resV_k rvs_nil rvs_t rvs_c fstO_s consO_s resK_s resL_1 resL_2 resL_3 resL_4  Option.some.injEq List.map_cons List.map_nil List.all_cons List.all_nil Bool.and_true Bool.and_self Bool.not_true Bool.not_false Option.map_some Option.map_none sls_s slsG_s loV_n loV_i hiV_n hiV_i idx_s mn_i mx_i s2b_s b2s_s bytO_s bytes_nil bytes_cons conB_s slv_sl slv_own slv_nils slvG_s slvN_s slvO_s iad_sl iadG_map take_map drop_map List.length_map iad_own iad_view iadO_a iadW_a mks_i rowO_nils rowO_sl rowO_own rowA_a eq_self appG_nils appG_own appO_a guardP_T mapA_s bld_nil mkf_nil bldF_e fill_nil fill_cons mkf_e lens_s len_nils len_sl len_own len_view isn_nile isn_erre List.getElem?_cons_zero List.getElem?_cons_succ List.length_cons List.length_nil decide_true decide_false Int.toNat_natCast Int.cast_ofNat_Int Int.reduceLT Int.reduceLE Int.reduceEq Int.reduceAdd Int.reduceSub Int.reduceMul Int.reduceNeg Int.reduceToNat List.getD_cons_zero List.getD_cons_succ not_true_eq_false not_false_eq_true Bool.false_eq_true Bool.true_eq_false reduceCtorEq
attribute [local go_sem] E.row Pc.row Pair.row Part.row Strm.row Flw.row Pk.row Door.row Conv.row World.row Ev.row rdV E.eta Pc.eta Pair.eta Part.eta Strm.eta Pk.eta Flw.eta Conv.eta Door.eta World.eta Ev.eta
attribute [local go_sem] sub_ok st_pv st_pa stVar_v stArr_a Nat.le_refl List.drop_zero List.drop_succ_cons List.take_succ_cons List.take_zero setR Nat.reduceLeDiff
attribute [local go_sem] wk_bot wk2_bot wk1_bot wk_undef wk_tup_e wk2_agg_e wk_agg_e wk1_fn_e wk2_fn_e wk_fn_e wkl_nil wkl_cons wkh_var_e wkh_arr_e wkh_fresh_e wkh_dead_v wkh_dead_a wkh_dead_d wk0_undef wk0_int wk0_bool wk0_str wk0_nils wk0_nils_sl wk0_nilp wk0_nile wk0_erre wk0_sl wk0_iptr wk0_own wk0_view wk0_pv wk0_pa fzA_a fzW_a fzP_v wk0_own_sl wk0_view_sl wk0_pv_iptr WkS_nil WkS_cons WkN_nil WkN_cons nonB_nil nonB_cons getN_nil getN_hit getN_miss pinOk_0 pinOk_s and_true true_and and_self
attribute [local go_sem] bot_int one_int unt_int clo_int bot_bool one_bool unt_bool clo_bool bot_str one_str unt_str clo_str bot_nils one_nils unt_nils clo_nils bot_nilp one_nilp unt_nilp clo_nilp bot_nile one_nile unt_nile clo_nile bot_erre one_erre unt_erre clo_erre bot_raw one_raw unt_raw clo_raw bot_sl one_sl unt_sl clo_sl bot_own one_own unt_own clo_own bot_view one_view unt_view clo_view bot_pv one_pv unt_pv clo_pv bot_pa one_pa unt_pa clo_pa bot_iptr one_iptr unt_iptr clo_iptr unt_agg unt_fn one_fn
attribute [local go_sem] rn_tup rn_agg rn2_agg rn_fn rn2_fn rnfn1 rn_bot rn2_bot rn1_bot rn0_int rn0_bool rn0_str rn0_nils rn0_nilp rn0_nile rn0_erre rn0_sl rn0_iptr rn0_own rn0_view rn0_pv rn0_pa hrn_var hrn_arr hrn_dead outU_nil outU_cons deads_nil deads_cons bk_ge bk_lt nsF_0 nsF_s chH_0 chH_s chH_n newN_e andB_s eqR_nil eqR_i eqR_b eqR_s mapX_f mapX_t eqs_a beq_f beq_t live_arr live_var nsl_nil nsl_cons Nat.reduceMul Nat.reduceLT Nat.zero_le Nat.not_lt_zero
attribute [local go_sem] mV lD lA fD bN eX oP nP sR i0 s0
def ic70:IC:=sR [oP 4 (.alloc 54 [i0,i0,i0,i0,i0,i0,s0])] (sR [mV 6 0,oP 7 (.nilc (.t 6)),fD 8 3 7,lD 9 1 8,mV 10 1,oP 11 (.iad 7 (.t 9) (.t 10)),lA 12 7 11,oP 5 (.alloc 54 [i0,i0,i0,i0,i0,i0,s0]),nP (.sto 7 (.t 5) (.t 12))] (sR [mV 13 0,mV 14 0,oP 15 (.nilc (.t 14)),fD 16 3 15,lD 17 1 16,mV 18 1,mV 19 1,oP 20 (.bin .add (.t 19) (.c (.int .i64 1))),oP 21 (.call 124 [.t 17,.t 18,.t 20]),oP 22 (.nilc (.t 13)),fD 23 3 22,nP (.sto 1 (.t 23) (.t 21))] (sR [lA 24 7 5,nP (.sto 7 (.t 4) (.t 24))] .ret)))
theorem dg70:Dg Tryz.prog 70 Tryz.f70 ic70 [(.cell 4 7 true)]:=⟨Tryz.func70,by kernel_rfl,by kernel_rfl⟩
theorem c70 (w:M.World) (k:Nat) (hk:k<w.nets.length) (hn:w.nets.length≤2000000):FnP Tryz.prog G 70 1 [.var 33 [.own 2 w.convs.length,.sl 3 (w.door.map.map Pair.row),.own 1 w.door.flows.length,.own 3 w.nets.length],.arr 46 8 (w.door.flows.map Flw.row),.arr 41 10 (w.convs.map Conv.row),.arr 54 7 (w.nets.map Pk.row)] [.pv 0 0,.int .i64 (k:Int)] (fun r o=>r=.agg (Pk.row (w.nets.getD k default))∧∃ v,v={ w with nets:=w.nets.eraseIdx k }∧o=[.var 33 [.own 2 v.convs.length,.sl 3 (v.door.map.map Pair.row),.own 1 v.door.flows.length,.own 3 v.nets.length],.arr 46 8 (v.door.flows.map Flw.row),.arr 41 10 (v.convs.map Conv.row),.arr 54 7 (v.nets.map Pk.row)]):=by
  refine mP dg70 Tryz.ntmps70 ⟨_,_,rfl,_,rfl,rfl⟩ ?_
  have hlen:(w.nets.eraseIdx k).length=w.nets.length - 1:=by rw [List.length_eraseIdx,if_pos hk]
  generalize hp:w.nets.getD k default=p at *
  simp only [ic70,go_sem]
  with_reducible repeat' (first|rw [i64w (by omega)];try simp only [go_sem,getD_mp hk,hp]|refine br ?_ ?_<;>intro h e<;>(try simp only [e,go_sem,getD_mp hk,hp])<;>clear e|refine sd ?_<;>try simp only [go_sem,getD_mp hk,hp]|fail)
  refine callU (o124 w.nets k hk) [3] [] 21 1 (by simp only [go_sem];first|done|simp) (by simp only [go_sem];first|done|simp) (by simp) (by simp) (by rintro _ _ ⟨rfl,rfl⟩;simp) (by intro i hi;obtain rfl:i=0:=(by omega);simp only [go_sem]) ?_
  rintro _ _ ⟨rfl,rfl⟩
  simp only [go_sem]
  with_reducible repeat' (first|refine br ?_ ?_<;>intro h e<;>(try simp only [e,go_sem])<;>clear e|rw [i64w (by omega)]|refine sd ?_<;>try simp only [go_sem]|fail)
  refine retN (.agg (Pk.row p)) [.var 33 [.own 2 ({ w with nets:=w.nets.eraseIdx k }:M.World).convs.length,.sl 3 (({ w with nets:=w.nets.eraseIdx k }:M.World).door.map.map Pair.row),.own 1 ({ w with nets:=w.nets.eraseIdx k }:M.World).door.flows.length,.own 3 ({ w with nets:=w.nets.eraseIdx k }:M.World).nets.length],.arr 46 8 (({ w with nets:=w.nets.eraseIdx k }:M.World).door.flows.map Flw.row),.arr 41 10 (({ w with nets:=w.nets.eraseIdx k }:M.World).convs.map Conv.row),.arr 54 7 (({ w with nets:=w.nets.eraseIdx k }:M.World).nets.map Pk.row)] [(3,102100)] ?_ ⟨rfl,_,rfl,rfl⟩ ?_ (by simp [argH,getN]) (by simp only [go_sem])
  · simp only [go_sem]
  · simp only [go_sem,hlen]
def strC (p:Pk) (c:Conv):Bool:=decide (c.out=p.frm)
def ic72:IC:=sR [oP 2 (.box 41 (.t 0)),oP 3 (.mv (.c (.bool false)))] (sR [fD 4 2 2,lA 5 2 4,fD 6 4 1,fD 7 1 6,lA 8 2 7,oP 9 (.eqs false [.i,.i] (.t 5) (.t 8)),mV 3 9] .ret)
theorem dg72:Dg Tryz.prog 72 Tryz.f72 ic72 [(.t 3)]:=⟨Tryz.func72,by kernel_rfl,by kernel_rfl⟩
theorem c72 (c:Conv) (e:Ev):FnR Tryz.prog G 72 [.agg [.int .i64 c.ins.a,.int .i64 c.ins.p,.int .i64 c.out.a,.int .i64 c.out.p,.str c.up,.str c.down,.int .i64 c.upAck,.int .i64 c.downAck,.str c.upGot,.str c.downGot],.iptr [.int .i64 e.kind,.int .i64 e.a,.int .i64 e.b,.int .i64 e.c,.int .i64 e.pkt.kind,.int .i64 e.pkt.frm.a,.int .i64 e.pkt.frm.p,.int .i64 e.pkt.to.a,.int .i64 e.pkt.to.p,.int .i64 e.pkt.at_,.str e.pkt.text] 0] (.bool (strC e.pkt c)):=by
  refine mF dg72 Tryz.ntmps72 ?_
  simp only [ic72,go_sem,E.ext_iff']
  all_goals simp_all [strC]
theorem c125D (l:List Conv) (e:Ev) (hl:l.length≤2000000):FnR Tryz.prog G 125 [.sl 10 (l.map Conv.row),.fn 72 [.iptr [.int .i64 e.kind,.int .i64 e.a,.int .i64 e.b,.int .i64 e.c,.int .i64 e.pkt.kind,.int .i64 e.pkt.frm.a,.int .i64 e.pkt.frm.p,.int .i64 e.pkt.to.a,.int .i64 e.pkt.to.p,.int .i64 e.pkt.at_,.str e.pkt.text] 0]] (.int .i64 (ixI (l.findIdx? (strC e.pkt)))):=by
  refine mF dg125 Tryz.ntmps125 ?_
  simp only [ic125,go_sem]
  refine loopN (fun k:Nat=>⟨getL [(0,.sl 10 (l.map Conv.row)),(1,.fn 72 [.iptr [.int .i64 e.kind,.int .i64 e.a,.int .i64 e.b,.int .i64 e.c,.int .i64 e.pkt.kind,.int .i64 e.pkt.frm.a,.int .i64 e.pkt.frm.p,.int .i64 e.pkt.to.a,.int .i64 e.pkt.to.p,.int .i64 e.pkt.at_,.str e.pkt.text] 0]),(7,.int .i64 l.length),(8,.int .i64 (k:Int))],getH []⟩) (fun k=>l.length - k)
    (fun k=>k≤l.length∧(l.take k).any (strC e.pkt)=false) 0 (leQ []) ⟨Nat.zero_le _,by simp⟩ ?_
  intro k ⟨hk,ha⟩
  simp only [go_sem]
  by_cases h:(k:Int)<l.length
  · have hil:k<l.length:=by omega
    have hg:l.getD k default=l[k]:=by simp [List.getD,hil]
    have hy:=findIdx_yes hil ha
    have hs:=any_step hil ha
    simp only [eq_true h,go_sem]
    refine effG (by omega) ?_
    simp only [hg,go_sem]
    refine callR (c72 l[k] e) rfl rfl ?_
    simp only [go_sem]
    with_reducible repeat' (first|refine br ?_ ?_<;>intro h e<;>(try simp only [e,go_sem])<;>clear e|rw [i64w (by omega)]|refine sd ?_<;>try simp only [go_sem]|fail)
    · rw [hy (by assumption)];rfl
    · exact ⟨k+1,by omega,⟨by omega,hs (by assumption)⟩,(leQ [])⟩
  · simp only [eq_false h,go_sem]
    have:k=l.length:=by omega
    subst this
    rw [List.take_length] at ha
    rw [findIdx_no ha];rfl
theorem c71D (l:List Conv) (e:Ev) (hl:l.length≤2000000):FnR Tryz.prog G 71 [.sl 10 (l.map Conv.row),.fn 72 [.iptr [.int .i64 e.kind,.int .i64 e.a,.int .i64 e.b,.int .i64 e.c,.int .i64 e.pkt.kind,.int .i64 e.pkt.frm.a,.int .i64 e.pkt.frm.p,.int .i64 e.pkt.to.a,.int .i64 e.pkt.to.p,.int .i64 e.pkt.at_,.str e.pkt.text] 0]] (.bool (l.any (strC e.pkt))):=by
  refine mF dg71 Tryz.ntmps71 ?_
  simp only [ic71,go_sem]
  refine callR (c125D l e hl) rfl rfl ?_
  simp only [go_sem,ixI_any]
theorem stranger_e (w:M.World) (p:Pk):stranger w p=(pkOk p && p.inward && !w.convs.any (strC p)):=rfl
def ic34:IC:=sR [oP 3 (.box 56 (.t 1))] (.seq (.drw [0,1,0,4,12,28,60,124,255,0,512,0,2048,6144,14336,30720,63488,131071,262143,524287] [(0,fD 7 1 3),(1,lD 8 1 7),(2,mV 9 0),(3,oP 10 (.nilc (.t 9))),(4,fD 11 0 10),(5,lD 12 1 11),(6,oP 13 (.len (.t 12))),(7,oP 14 (.bin .sub (.t 13) (.c (.int .i64 1)))),(8,oP 15 (.call 38 [.t 8,.c i0,.t 14])),(9,fD 16 1 3),(10,lD 17 1 16),(11,mV 18 0),(12,oP 19 (.nilc (.t 18))),(13,fD 20 3 19),(14,lD 21 1 20),(15,oP 22 (.len (.t 21))),(16,oP 23 (.bin .sub (.t 22) (.c (.int .i64 1)))),(17,oP 24 (.call 38 [.t 17,.c i0,.t 23])),(18,mV 4 15),(19,mV 5 24)]) (.block 0 (sR [fD 26 0 3,lD 27 1 26,oP 28 (.bin .eql (.t 27) (.c (.int .i64 1))),mV 29 28,⟨some 30,some (29,true),.mv (.t 4)⟩,oP 31 (.pick (.t 29) (.t 30) (.c (.bool false))),mV 25 31] (.cond (.t 25) (.drw [0,0,2,6,14,0,32,126,254,0,512,0,2048,8190,16382,16382,65535] [(0,mV 32 0),(1,mV 33 0),(2,oP 34 (.nilc (.t 33))),(3,fD 35 0 34),(4,lD 36 1 35),(5,fD 37 1 3),(6,lD 38 1 37),(7,oP 39 (.iad 10 (.t 36) (.t 38))),(8,lA 40 10 39),(9,fD 41 2 3),(10,lD 42 1 41),(11,fD 43 3 3),(12,lD 44 1 43),(13,oP 45 (.call 61 [.t 40,.c (.bool true),.c i0,.t 42,.t 44])),(14,eX 46 45 0),(15,eX 47 45 1),(16,oP 48 (.call 67 [.t 32,.t 46,.t 47]))]) (sR [fD 50 0 3,lD 51 1 50,oP 52 (.bin .eql (.t 51) (.c (.int .i64 2))),mV 53 52,⟨some 54,some (53,true),.mv (.t 4)⟩,oP 55 (.pick (.t 53) (.t 54) (.c (.bool false))),mV 49 55] (.cond (.t 49) (.drw [0,0,2,6,14,0,32,126,254,0,0,1024,3584,0,8192,0,32768,131070,262142,262142,1048575] [(0,mV 56 0),(1,mV 57 0),(2,oP 58 (.nilc (.t 57))),(3,fD 59 0 58),(4,lD 60 1 59),(5,fD 61 1 3),(6,lD 62 1 61),(7,oP 63 (.iad 10 (.t 60) (.t 62))),(8,lA 64 10 63),(9,mV 65 0),(10,fD 66 1 3),(11,lD 67 1 66),(12,oP 68 (.call 68 [.t 65,.t 67])),(13,fD 69 2 3),(14,lD 70 1 69),(15,fD 71 3 3),(16,lD 72 1 71),(17,oP 73 (.call 61 [.t 64,.c (.bool false),.t 68,.t 70,.t 72])),(18,eX 74 73 0),(19,eX 75 73 1),(20,oP 76 (.call 67 [.t 56,.t 74,.t 75]))]) (sR [fD 78 0 3,lD 79 1 78,oP 80 (.bin .eql (.t 79) (.c (.int .i64 3))),mV 81 80,⟨some 82,some (81,true),.mv (.t 5)⟩,oP 83 (.pick (.t 81) (.t 82) (.c (.bool false))),mV 77 83] (.cond (.t 77) (.reg [mV 84 0,mV 85 0,mV 86 0,fD 87 1 3,lD 88 1 87,oP 89 (.call 70 [.t 86,.t 88]),oP 90 (.call 69 [.t 85,.t 89]),eX 91 90 0,eX 92 90 1,oP 93 (.call 67 [.t 84,.t 91,.t 92])]) (sR [fD 95 0 3,lD 96 1 95,oP 97 (.bin .eql (.t 96) (.c (.int .i64 4))),mV 98 97,⟨some 99,some (98,true),.mv (.t 5)⟩,oP 100 (.pick (.t 98) (.t 99) (.c (.bool false))),mV 94 100] (.cond (.t 94) (.reg [mV 101 0,fD 102 1 3,lD 103 1 102,oP 104 (.call 70 [.t 101,.t 103])]) (sR [fD 106 0 3,lD 107 1 106,oP 108 (.bin .eql (.t 107) (.c (.int .i64 5))),mV 109 108,⟨some 110,some (109,true),.mv (.t 5)⟩,oP 111 (.pick (.t 109) (.t 110) (.c (.bool false))),mV 105 111] (.cond (.t 105) (.drw [0,0,2,6,14,0,32,126,254,511] [(0,mV 112 0),(1,mV 113 0),(2,oP 114 (.nilc (.t 113))),(3,fD 115 3 114),(4,lD 116 1 115),(5,fD 117 1 3),(6,lD 118 1 117),(7,oP 119 (.iad 7 (.t 116) (.t 118))),(8,lA 120 7 119),(9,oP 121 (.call 67 [.t 112,.t 120,.c (.bool true)]))]) (sR [fD 123 0 3,lD 124 1 123,oP 125 (.bin .eql (.t 124) (.c (.int .i64 6))),mV 122 125] (.cond (.t 122) (sR [mV 126 0,oP 127 (.nilc (.t 126)),fD 128 0 127,lD 129 1 128,oP 130 (.mkf 72 [.t 3]),oP 131 (.call 71 [.t 129,.t 130]),oP 132 (.un .not (.t 131)),mV 6 132] (.drw [0,0,2,0,8,24,56,120,248,504,1016,2040,4088,8184,16383] [(0,mV 133 0),(1,fD 134 4 3),(2,lA 135 7 134),(3,fD 136 4 3),(4,lA 137 7 136),(5,oP 138 (.call 58 [.t 137])),(6,mV 139 138),(7,⟨some 140,some (139,true),.fad 4 (.t 3)⟩),(8,⟨some 141,some (139,true),.ld 7 true (.t 140)⟩),(9,⟨some 142,some (139,true),.call 73 [.t 141]⟩),(10,oP 143 (.pick (.t 139) (.t 142) (.c (.bool false)))),(11,mV 144 143),(12,⟨some 145,some (144,true),.mv (.t 6)⟩),(13,oP 146 (.pick (.t 144) (.t 145) (.c (.bool false)))),(14,oP 147 (.call 67 [.t 133,.t 135,.t 146]))])) .skip))))))))))))))
theorem dg34:Dg Tryz.prog 34 Tryz.f34 ic34 []:=⟨Tryz.func34,by kernel_rfl,by kernel_rfl⟩
set_option maxHeartbeats 1000000 in
theorem x34 {X:List (E × E)} (w:M.World) (e:Ev) (hw:WX X w) (ht:e.pkt.text.length≤2000000):FnP Tryz.prog G 34 1 [.var 33 [.own 2 w.convs.length,.sl 3 (w.door.map.map Pair.row),.own 1 w.door.flows.length,.own 3 w.nets.length],.arr 46 8 (w.door.flows.map Flw.row),.arr 41 10 (w.convs.map Conv.row),.arr 54 7 (w.nets.map Pk.row)] [.pv 0 0,.agg [.int .i64 e.kind,.int .i64 e.a,.int .i64 e.b,.int .i64 e.c,.int .i64 e.pkt.kind,.int .i64 e.pkt.frm.a,.int .i64 e.pkt.frm.p,.int .i64 e.pkt.to.a,.int .i64 e.pkt.to.p,.int .i64 e.pkt.at_,.str e.pkt.text]] (fun r o=>r=.tup []∧∃ v,v=wDo w e∧o=[.var 33 [.own 2 v.convs.length,.sl 3 (v.door.map.map Pair.row),.own 1 v.door.flows.length,.own 3 v.nets.length],.arr 46 8 (v.door.flows.map Flw.row),.arr 41 10 (v.convs.map Conv.row),.arr 54 7 (v.nets.map Pk.row)]):=by
  refine mP dg34 Tryz.ntmps34 ⟨_,_,rfl,_,rfl,rfl⟩ ?_
  have hnl:=hw.nl
  have hcl:=hw.cl
  have hml:=(mapOk_ports (doorOk_iff.1 hw.door).1).2
  have fin:∀ l mm (v:M.World) (n1 n2 n3:Nat),v=wDo w e→getH mm 0=.var 33 [.own n2 v.convs.length,.sl 3 (v.door.map.map Pair.row),.own n1 v.door.flows.length,.own n3 v.nets.length]→getH mm n1=.arr 46 8 (v.door.flows.map Flw.row)→getH mm n2=.arr 41 10 (v.convs.map Conv.row)→getH mm n3=.arr 54 7 (v.nets.map Pk.row)→[0,n1,n2,n3].Nodup →
      retQ [] 1 (fun r o=>r=.tup []∧∃ v,v=wDo w e∧o=[.var 33 [.own 2 v.convs.length,.sl 3 (v.door.map.map Pair.row),.own 1 v.door.flows.length,.own 3 v.nets.length],.arr 46 8 (v.door.flows.map Flw.row),.arr 41 10 (v.convs.map Conv.row),.arr 54 7 (v.nets.map Pk.row)]) .normal ⟨getL l,getH mm⟩:=fun l mm v n1 n2 n3 h0 h1 h2 h3 h4 h5=>by
    show retQ _ _ _ .ret _
    refine retN (.tup []) [.var 33 [.own 2 v.convs.length,.sl 3 (v.door.map.map Pair.row),.own 1 v.door.flows.length,.own 3 v.nets.length],.arr 46 8 (v.door.flows.map Flw.row),.arr 41 10 (v.convs.map Conv.row),.arr 54 7 (v.nets.map Pk.row)] [(1,n1),(2,n2),(3,n3)] (by simp only [go_sem,resL_0]) ⟨rfl,v,h0,rfl⟩ ?_ (by simpa [argH,getN] using h5) (by simp only [go_sem])
    simp only [go_sem,h1,h2,h3,h4]
  have opt_i:∀ o:Option Pk,(bif o.isSome then some (o.getD .zero) else none)=o:=fun o=>by cases o<;>rfl
  by_cases k1:e.kind=1
  · have hk:=k1
    cases hbc:within e.a 0 ((w.convs.length:Int) - 1)
    · have hx:wDo w e=w:=by simp [wDo,hk,sayW,hbc,send]
      simp only [ic34,go_sem,hk]
      with_reducible repeat' (first|rw [i64w (by omega)];try simp only [go_sem,hk,hbc]|refine br ?_ ?_<;>intro h e<;>(try simp only [e,go_sem,hk,hbc])<;>clear e|refine sd ?_<;>try simp only [go_sem,hk,hbc]|(first|refine cr (c38 ..) ?_)<;>try simp only [go_sem,hk,hbc]|fail)
      exact fin _ _ w 1 2 3 hx.symm (by simp only [go_sem]) (by simp only [go_sem]) (by simp only [go_sem]) (by simp only [go_sem]) (by decide)
    have hb2:=M.within_iff.1 hbc
    have hil:e.a.toNat<w.convs.length:=by omega
    have hg0:w.convs.getD e.a.toNat default=w.convs[e.a.toNat]:=by simp [List.getD,hil]
    have hcb:=convOk_B (hw.cv _ (List.getElem_mem hil))
    have hsw:sayW w true e.a e.b e.c=say w.convs[e.a.toNat] true 0 e.b e.c:=by simp only [sayW,hbc,if_true,List.getElem?_eq_getElem hil];rfl
    have hx:wDo w e=send w (sayW w true e.a e.b e.c):=by simp [wDo,hk]
    have fs:=c61 w.convs[e.a.toNat] true 0 e.b e.c (by have:=hcb.up;omega) (by have:=hcb.down;omega)
    rw [hsw] at hx
    generalize w.convs[e.a.toNat]=cv at *
    simp only [ic34,go_sem,hk]
    with_reducible repeat' (first|rw [i64w (by omega)];try simp only [go_sem,hk,hbc,getD_mp hil,hg0]|refine br ?_ ?_<;>intro h e<;>(try simp only [e,go_sem,hk,hbc,getD_mp hil,hg0])<;>clear e|refine sd ?_<;>try simp only [go_sem,hk,hbc,getD_mp hil,hg0]|(first|refine cr (c38 ..) ?_|refine cr (fs ..) ?_)<;>try simp only [go_sem,hk,hbc,getD_mp hil,hg0]|fail)
    generalize say cv true 0 e.b e.c=o at *
    refine callN (c67 w (o.getD .zero) o.isSome (by omega)) [0,1,2,3] [] true 48 4 (by simp only [go_sem];first|done|simp) (by simp only [go_sem];first|done|simp) (by simp) (by simp) (by simp) ?_ ?_ ?_
    · rintro _ _ ⟨rfl,v,hv,rfl⟩
      exact ⟨by simp,by simp,.inl rfl,fun i hi=>by obtain rfl:i=0:=(by omega);simp [chH,stepOk]⟩
    · intro i hi
      rcases (show i=0∨i=1∨i=2∨i=3 by omega) with rfl|rfl|rfl|rfl<;>simp only [go_sem]
    rintro _ _ ⟨rfl,vv,hvv,rfl⟩
    simp only [go_sem]
    with_reducible repeat' (first|refine br ?_ ?_<;>intro h e<;>(try simp only [e,go_sem])<;>clear e|rw [i64w (by omega)]|refine sd ?_<;>try simp only [go_sem]|fail)
    rw [opt_i,← hx] at hvv
    exact fin _ _ vv 104801 104802 104803 hvv (by simp only [go_sem]) (by simp only [go_sem]) (by simp only [go_sem]) (by simp only [go_sem]) (by decide)
  by_cases k2:e.kind=2
  · have hk:=k2
    cases hbc:within e.a 0 ((w.convs.length:Int) - 1)
    · have hx:wDo w e=w:=by simp [wDo,hk,sayW,hbc,send]
      simp only [ic34,go_sem,hk]
      with_reducible repeat' (first|rw [i64w (by omega)];try simp only [go_sem,hk,hbc]|refine br ?_ ?_<;>intro h e<;>(try simp only [e,go_sem,hk,hbc])<;>clear e|refine sd ?_<;>try simp only [go_sem,hk,hbc]|(first|refine cr (c38 ..) ?_)<;>try simp only [go_sem,hk,hbc]|fail)
      exact fin _ _ w 1 2 3 hx.symm (by simp only [go_sem]) (by simp only [go_sem]) (by simp only [go_sem]) (by simp only [go_sem]) (by decide)
    have hb2:=M.within_iff.1 hbc
    have hil:e.a.toNat<w.convs.length:=by omega
    have hg0:w.convs.getD e.a.toNat default=w.convs[e.a.toNat]:=by simp [List.getD,hil]
    have hcb:=convOk_B (hw.cv _ (List.getElem_mem hil))
    have hsw:sayW w false e.a e.b e.c=say w.convs[e.a.toNat] false (portOf w.door.map w.convs[e.a.toNat].ins) e.b e.c:=by simp only [sayW,hbc,if_true,List.getElem?_eq_getElem hil];rfl
    have hx:wDo w e=send w (sayW w false e.a e.b e.c):=by simp [wDo,hk]
    have hA:((e.a.toNat:Nat):Int)=e.a:=by omega
    have fp:=c68 w e.a.toNat hil (by omega)
    rw [hg0,hA] at fp
    have fs:=c61 w.convs[e.a.toNat] false (portOf w.door.map w.convs[e.a.toNat].ins) e.b e.c (by have:=hcb.up;omega) (by have:=hcb.down;omega)
    rw [hsw] at hx
    generalize w.convs[e.a.toNat]=cv at *
    simp only [ic34,go_sem,hk]
    with_reducible repeat' (first|rw [i64w (by omega)];try simp only [go_sem,hk,hbc,getD_mp hil,hg0]|refine br ?_ ?_<;>intro h e<;>(try simp only [e,go_sem,hk,hbc,getD_mp hil,hg0])<;>clear e|refine sd ?_<;>try simp only [go_sem,hk,hbc,getD_mp hil,hg0]|(first|refine cr (c38 ..) ?_)<;>try simp only [go_sem,hk,hbc,getD_mp hil,hg0]|fail)
    refine callRd fp [0,1,2,3] 68 4 (by simp only [go_sem];first|done|simp) (by simp only [go_sem];first|done|simp) (by simp) (by simp) ?_ ?_ ?_ ?_
    · rintro _ _ ⟨rfl,rfl⟩
      exact ⟨by simp,by simp,fun i hi=>by rcases (show i=0∨i=1∨i=2∨i=3 by omega) with rfl|rfl|rfl|rfl<;>simp [chH,stepOk]⟩
    · intro i hi
      rcases (show i=0∨i=1∨i=2∨i=3 by omega) with rfl|rfl|rfl|rfl<;>simp only [go_sem]
    · rintro _ _ ⟨rfl,rfl⟩ x hx
      simp only [go_sem,List.drop_succ_cons,List.drop_nil,List.append_nil,List.mem_cons,List.not_mem_nil,or_false] at hx
      rcases hx with rfl|rfl|rfl|rfl<;>simp only [go_sem]
    rintro _ _ ⟨rfl,rfl⟩
    simp only [go_sem]
    with_reducible repeat' (first|refine br ?_ ?_<;>intro h e<;>(try simp only [e,go_sem,hk,getD_mp hil,hg0])<;>clear e|rw [i64w (by omega)]|refine sd ?_<;>try simp only [go_sem,hk,getD_mp hil,hg0]|(first|refine cr (fs ..) ?_)<;>try simp only [go_sem,hk,getD_mp hil,hg0]|fail)
    generalize say cv false (portOf w.door.map cv.ins) e.b e.c=o at *
    refine callN (c67 w (o.getD .zero) o.isSome (by omega)) [0,1,2,3] [] true 76 4 (by simp only [go_sem];first|done|simp) (by simp only [go_sem];first|done|simp) (by simp) (by simp) (by simp) ?_ ?_ ?_
    · rintro _ _ ⟨rfl,v,hv,rfl⟩
      exact ⟨by simp,by simp,.inl rfl,fun i hi=>by obtain rfl:i=0:=(by omega);simp [chH,stepOk]⟩
    · intro i hi
      rcases (show i=0∨i=1∨i=2∨i=3 by omega) with rfl|rfl|rfl|rfl<;>simp only [go_sem]
    rintro _ _ ⟨rfl,vv,hvv,rfl⟩
    simp only [go_sem]
    with_reducible repeat' (first|refine br ?_ ?_<;>intro h e<;>(try simp only [e,go_sem])<;>clear e|rw [i64w (by omega)]|refine sd ?_<;>try simp only [go_sem]|fail)
    rw [opt_i,← hx] at hvv
    exact fin _ _ vv 107601 107602 107603 hvv (by simp only [go_sem]) (by simp only [go_sem]) (by simp only [go_sem]) (by simp only [go_sem]) (by decide)
  by_cases k3:e.kind=3
  · have hk:=k3
    cases hbn:within e.a 0 ((w.nets.length:Int) - 1)
    · have hx:wDo w e=w:=by simp [wDo,hk,hbn]
      simp only [ic34,go_sem,hk]
      with_reducible repeat' (first|rw [i64w (by omega)];try simp only [go_sem,hk,hbn]|refine br ?_ ?_<;>intro h e<;>(try simp only [e,go_sem,hk,hbn])<;>clear e|refine sd ?_<;>try simp only [go_sem,hk,hbn]|(first|refine cr (c38 ..) ?_)<;>try simp only [go_sem,hk,hbn]|fail)
      exact fin _ _ w 1 2 3 hx.symm (by simp only [go_sem]) (by simp only [go_sem]) (by simp only [go_sem]) (by simp only [go_sem]) (by decide)
    have hb2:=M.within_iff.1 hbn
    have hil:e.a.toNat<w.nets.length:=by omega
    have hg0:w.nets.getD e.a.toNat default=w.nets[e.a.toNat]:=by simp [List.getD,hil]
    have hg2:w.nets[e.a.toNat]?=some w.nets[e.a.toNat]:=List.getElem?_eq_getElem hil
    have hA:((e.a.toNat:Nat):Int)=e.a:=by omega
    have hnp:=hw.net _ (List.mem_of_getElem? hg2)
    have hx:wDo w e=send (carry { w with nets:=w.nets.eraseIdx e.a.toNat } w.nets[e.a.toNat]).1 (carry { w with nets:=w.nets.eraseIdx e.a.toNat } w.nets[e.a.toNat]).2:=by simp [wDo,hk,hbn,hg2]
    have ft:=c70 w e.a.toNat hil (by omega)
    rw [hg0,hA] at ft
    generalize hp:w.nets[e.a.toNat]=p at *
    simp only [ic34,go_sem,hk]
    with_reducible repeat' (first|rw [i64w (by omega)];try simp only [go_sem,hk,hbn]|refine br ?_ ?_<;>intro h e<;>(try simp only [e,go_sem,hk,hbn])<;>clear e|refine sd ?_<;>try simp only [go_sem,hk,hbn]|(first|refine cr (c38 ..) ?_)<;>try simp only [go_sem,hk,hbn]|fail)
    refine callN ft [0,1,2,3] [] true 89 4 (by simp only [go_sem];first|done|simp) (by simp only [go_sem];first|done|simp) (by simp) (by simp) (by simp) ?_ ?_ ?_
    · rintro _ _ ⟨rfl,v,hv,rfl⟩
      exact ⟨by simp,by simp,.inl rfl,fun i hi=>by obtain rfl:i=0:=(by omega);simp [chH,stepOk]⟩
    · intro i hi
      rcases (show i=0∨i=1∨i=2∨i=3 by omega) with rfl|rfl|rfl|rfl<;>simp only [go_sem]
    rintro _ _ ⟨rfl,v,hv,rfl⟩
    simp only [go_sem]
    with_reducible repeat' (first|refine br ?_ ?_<;>intro h e<;>(try simp only [e,go_sem])<;>clear e|rw [i64w (by omega)]|refine sd ?_<;>try simp only [go_sem]|fail)
    rw [← hv] at hx
    have hwv:WX X v:=by rw [hv];exact hw.erase _
    have hcv:v.convs=w.convs:=by rw [hv]
    have hok:=(carry_X hwv (by rw [hcv];exact hnp)).1
    refine callN (x69 v p hwv hnp.pk) [0,108901,108902,108903] [] true 90 4 (by simp only [go_sem];first|done|simp) (by simp only [go_sem];first|done|simp) (by simp) (by simp) (by simp) ?_ ?_ ?_
    · rintro _ _ ⟨q,rfl,hq,rfl⟩
      exact ⟨by simp,by simp,.inl rfl,fun i hi=>by obtain rfl:i=0:=(by omega);simp [chH,stepOk]⟩
    · intro i hi
      rcases (show i=0∨i=1∨i=2∨i=3 by omega) with rfl|rfl|rfl|rfl<;>simp only [go_sem]
    rintro _ _ ⟨q,rfl,hq,rfl⟩
    generalize carry v p=r at *
    obtain ⟨v1,o⟩:=r
    simp only at hok hx hq
    have hn1:=hok.nl
    simp only [go_sem]
    with_reducible repeat' (first|refine br ?_ ?_<;>intro h e<;>(try simp only [e,go_sem])<;>clear e|rw [i64w (by omega)]|refine sd ?_<;>try simp only [go_sem]|fail)
    refine callN (c67 v1 q o.isSome (by omega)) [0,109001,109002,109003] [] true 93 4 (by simp only [go_sem];first|done|simp) (by simp only [go_sem];first|done|simp) (by simp) (by simp) (by simp) ?_ ?_ ?_
    · rintro _ _ ⟨rfl,v,hv,rfl⟩
      exact ⟨by simp,by simp,.inl rfl,fun i hi=>by obtain rfl:i=0:=(by omega);simp [chH,stepOk]⟩
    · intro i hi
      rcases (show i=0∨i=1∨i=2∨i=3 by omega) with rfl|rfl|rfl|rfl<;>simp only [go_sem]
    rintro _ _ ⟨rfl,vv,hvv,rfl⟩
    simp only [go_sem]
    with_reducible repeat' (first|refine br ?_ ?_<;>intro h e<;>(try simp only [e,go_sem])<;>clear e|rw [i64w (by omega)]|refine sd ?_<;>try simp only [go_sem]|fail)
    have ho:(bif o.isSome then some q else none)=o:=by cases o with
      | none=>rfl
      | some q'=>rw [hq q' rfl];rfl
    rw [ho,← hx] at hvv
    exact fin _ _ vv 109301 109302 109303 hvv (by simp only [go_sem]) (by simp only [go_sem]) (by simp only [go_sem]) (by simp only [go_sem]) (by decide)
  by_cases k4:e.kind=4
  · have hk:=k4
    cases hbn:within e.a 0 ((w.nets.length:Int) - 1)
    · have hx:wDo w e=w:=by simp [wDo,hk,hbn]
      simp only [ic34,go_sem,hk]
      with_reducible repeat' (first|rw [i64w (by omega)];try simp only [go_sem,hk,hbn]|refine br ?_ ?_<;>intro h e<;>(try simp only [e,go_sem,hk,hbn])<;>clear e|refine sd ?_<;>try simp only [go_sem,hk,hbn]|(first|refine cr (c38 ..) ?_)<;>try simp only [go_sem,hk,hbn]|fail)
      exact fin _ _ w 1 2 3 hx.symm (by simp only [go_sem]) (by simp only [go_sem]) (by simp only [go_sem]) (by simp only [go_sem]) (by decide)
    have hb2:=M.within_iff.1 hbn
    have hil:e.a.toNat<w.nets.length:=by omega
    have hg0:w.nets.getD e.a.toNat default=w.nets[e.a.toNat]:=by simp [List.getD,hil]
    have hg2:w.nets[e.a.toNat]?=some w.nets[e.a.toNat]:=List.getElem?_eq_getElem hil
    have hA:((e.a.toNat:Nat):Int)=e.a:=by omega
    have hnp:=hw.net _ (List.mem_of_getElem? hg2)
    have hx:wDo w e={ w with nets:=w.nets.eraseIdx e.a.toNat }:=by simp [wDo,hk,hbn]
    have ft:=c70 w e.a.toNat hil (by omega)
    rw [hg0,hA] at ft
    generalize hp:w.nets[e.a.toNat]=p at *
    simp only [ic34,go_sem,hk]
    with_reducible repeat' (first|rw [i64w (by omega)];try simp only [go_sem,hk,hbn]|refine br ?_ ?_<;>intro h e<;>(try simp only [e,go_sem,hk,hbn])<;>clear e|refine sd ?_<;>try simp only [go_sem,hk,hbn]|(first|refine cr (c38 ..) ?_)<;>try simp only [go_sem,hk,hbn]|fail)
    refine callN ft [0,1,2,3] [] true 104 4 (by simp only [go_sem];first|done|simp) (by simp only [go_sem];first|done|simp) (by simp) (by simp) (by simp) ?_ ?_ ?_
    · rintro _ _ ⟨rfl,v,hv,rfl⟩
      exact ⟨by simp,by simp,.inl rfl,fun i hi=>by obtain rfl:i=0:=(by omega);simp [chH,stepOk]⟩
    · intro i hi
      rcases (show i=0∨i=1∨i=2∨i=3 by omega) with rfl|rfl|rfl|rfl<;>simp only [go_sem]
    rintro _ _ ⟨rfl,v,hv,rfl⟩
    simp only [go_sem]
    with_reducible repeat' (first|refine br ?_ ?_<;>intro h e<;>(try simp only [e,go_sem])<;>clear e|rw [i64w (by omega)]|refine sd ?_<;>try simp only [go_sem]|fail)
    rw [← hx] at hv
    exact fin _ _ v 110401 110402 110403 hv (by simp only [go_sem]) (by simp only [go_sem]) (by simp only [go_sem]) (by simp only [go_sem]) (by decide)
  by_cases k5:e.kind=5
  · have hk:=k5
    cases hbn:within e.a 0 ((w.nets.length:Int) - 1)
    · have hx:wDo w e=w:=by simp [wDo,hk,hbn]
      simp only [ic34,go_sem,hk]
      with_reducible repeat' (first|rw [i64w (by omega)];try simp only [go_sem,hk,hbn]|refine br ?_ ?_<;>intro h e<;>(try simp only [e,go_sem,hk,hbn])<;>clear e|refine sd ?_<;>try simp only [go_sem,hk,hbn]|(first|refine cr (c38 ..) ?_)<;>try simp only [go_sem,hk,hbn]|fail)
      exact fin _ _ w 1 2 3 hx.symm (by simp only [go_sem]) (by simp only [go_sem]) (by simp only [go_sem]) (by simp only [go_sem]) (by decide)
    have hb2:=M.within_iff.1 hbn
    have hil:e.a.toNat<w.nets.length:=by omega
    have hg0:w.nets.getD e.a.toNat default=w.nets[e.a.toNat]:=by simp [List.getD,hil]
    have hg2:w.nets[e.a.toNat]?=some w.nets[e.a.toNat]:=List.getElem?_eq_getElem hil
    have hA:((e.a.toNat:Nat):Int)=e.a:=by omega
    have hnp:=hw.net _ (List.mem_of_getElem? hg2)
    have hx:wDo w e=send w (some w.nets[e.a.toNat]):=by simp [wDo,hk,hbn,hg2]
    generalize w.nets[e.a.toNat]=p at *
    simp only [ic34,go_sem,hk]
    with_reducible repeat' (first|rw [i64w (by omega)];try simp only [go_sem,hk,hbn,getD_mp hil,hg0]|refine br ?_ ?_<;>intro h e<;>(try simp only [e,go_sem,hk,hbn,getD_mp hil,hg0])<;>clear e|refine sd ?_<;>try simp only [go_sem,hk,hbn,getD_mp hil,hg0]|(first|refine cr (c38 ..) ?_)<;>try simp only [go_sem,hk,hbn,getD_mp hil,hg0]|fail)
    refine callN (c67 w p true (by omega)) [0,1,2,3] [] true 121 4 (by simp only [go_sem];first|done|simp) (by simp only [go_sem];first|done|simp) (by simp) (by simp) (by simp) ?_ ?_ ?_
    · rintro _ _ ⟨rfl,v,hv,rfl⟩
      exact ⟨by simp,by simp,.inl rfl,fun i hi=>by obtain rfl:i=0:=(by omega);simp [chH,stepOk]⟩
    · intro i hi
      rcases (show i=0∨i=1∨i=2∨i=3 by omega) with rfl|rfl|rfl|rfl<;>simp only [go_sem]
    rintro _ _ ⟨rfl,vv,hvv,rfl⟩
    simp only [go_sem]
    with_reducible repeat' (first|refine br ?_ ?_<;>intro h e<;>(try simp only [e,go_sem])<;>clear e|rw [i64w (by omega)]|refine sd ?_<;>try simp only [go_sem]|fail)
    simp only [cond_true] at hvv
    rw [← hx] at hvv
    exact fin _ _ vv 112101 112102 112103 hvv (by simp only [go_sem]) (by simp only [go_sem]) (by simp only [go_sem]) (by simp only [go_sem]) (by decide)
  by_cases k6:e.kind=6
  · have hk:=k6
    have fc:=c71D w.convs e (by omega)
    simp only [hk] at fc
    have f1:=c58 e.pkt ht
    have f2:=c73 e.pkt
    have hx:wDo w e=send w (bif stranger w e.pkt then some e.pkt else none):=by
      simp only [wDo,hk]
      cases stranger w e.pkt<;>simp [send]
    rw [stranger_e] at hx
    generalize w.convs.any (strC e.pkt)=ba at *
    generalize pkOk e.pkt=bp at *
    generalize e.pkt.inward=bi at *
    simp only [ic34,go_sem,hk]
    with_reducible repeat' (first|rw [i64w (by omega)];try simp only [go_sem,hk,mkf_pv1]|refine br ?_ ?_<;>intro h e<;>(try simp only [e,go_sem,hk,mkf_pv1])<;>clear e|refine sd ?_<;>try simp only [go_sem,hk,mkf_pv1]|(first|refine cr (c38 ..) ?_)<;>try simp only [go_sem,hk,mkf_pv1]|fail)
    refine callF fc [2,1003] false (by simp only [go_sem,List.mem_cons,true_or,or_true]) (by simp only [List.mem_cons,List.not_mem_nil,or_false];rintro c (rfl|rfl)<;>simp only [go_sem]) rfl (.inr rfl) ?_
    cases ba<;>cases bp<;>cases bi
    all_goals
      simp only [go_sem]
      with_reducible repeat' (first|refine br ?_ ?_<;>intro h e<;>(try simp only [e,go_sem])<;>clear e|rw [i64w (by omega)]|refine sd ?_<;>try simp only [go_sem]|(first|refine cr (f1 ..) ?_|refine cr (f2 ..) ?_)<;>try simp only [go_sem]|fail)
    all_goals first
      | (
         refine callN (c67 w e.pkt false (by omega)) [0,1,2,3] [] true 147 4 (by simp only [go_sem];first|done|simp) (by simp only [go_sem];first|done|simp) (by simp) (by simp) (by simp) ?_ ?_ ?_
         · rintro _ _ ⟨rfl,v,hv,rfl⟩
           exact ⟨by simp,by simp,.inl rfl,fun i hi=>by obtain rfl:i=0:=(by omega);simp [chH,stepOk]⟩
         · intro i hi
           rcases (show i=0∨i=1∨i=2∨i=3 by omega) with rfl|rfl|rfl|rfl<;>simp only [go_sem]
         rintro _ _ ⟨rfl,vv,hvv,rfl⟩
         simp only [go_sem]
         with_reducible repeat' (first|refine br ?_ ?_<;>intro h e<;>(try simp only [e,go_sem])<;>clear e|rw [i64w (by omega)]|refine sd ?_<;>try simp only [go_sem]|fail)
         simp only [Bool.not_true,Bool.not_false,Bool.and_true,Bool.and_false,Bool.true_and,Bool.false_and,Bool.and_self,cond_true,cond_false] at hx hvv
         rw [← hx] at hvv
         exact fin _ _ vv 114701 114702 114703 hvv (by simp only [go_sem]) (by simp only [go_sem]) (by simp only [go_sem]) (by simp only [go_sem]) (by decide)
         done
         )
      | (
         refine callN (c67 w e.pkt true (by omega)) [0,1,2,3] [] true 147 4 (by simp only [go_sem];first|done|simp) (by simp only [go_sem];first|done|simp) (by simp) (by simp) (by simp) ?_ ?_ ?_
         · rintro _ _ ⟨rfl,v,hv,rfl⟩
           exact ⟨by simp,by simp,.inl rfl,fun i hi=>by obtain rfl:i=0:=(by omega);simp [chH,stepOk]⟩
         · intro i hi
           rcases (show i=0∨i=1∨i=2∨i=3 by omega) with rfl|rfl|rfl|rfl<;>simp only [go_sem]
         rintro _ _ ⟨rfl,vv,hvv,rfl⟩
         simp only [go_sem]
         with_reducible repeat' (first|refine br ?_ ?_<;>intro h e<;>(try simp only [e,go_sem])<;>clear e|rw [i64w (by omega)]|refine sd ?_<;>try simp only [go_sem]|fail)
         simp only [Bool.not_true,Bool.not_false,Bool.and_true,Bool.and_false,Bool.true_and,Bool.false_and,Bool.and_self,cond_true,cond_false] at hx hvv
         rw [← hx] at hvv
         exact fin _ _ vv 114701 114702 114703 hvv (by simp only [go_sem]) (by simp only [go_sem]) (by simp only [go_sem]) (by simp only [go_sem]) (by decide)
         done
         )
  have hx:wDo w e=w:=by simp [wDo, *]
  simp only [ic34,go_sem]
  with_reducible repeat' (first|rw [i64w (by omega)];try simp only [go_sem,eq_false k1,eq_false k2,eq_false k3,eq_false k4,eq_false k5,eq_false k6]|refine br ?_ ?_<;>intro h e<;>(try simp only [e,go_sem,eq_false k1,eq_false k2,eq_false k3,eq_false k4,eq_false k5,eq_false k6])<;>clear e|refine sd ?_<;>try simp only [go_sem,eq_false k1,eq_false k2,eq_false k3,eq_false k4,eq_false k5,eq_false k6]|(first|refine cr (c38 ..) ?_)<;>try simp only [go_sem,eq_false k1,eq_false k2,eq_false k3,eq_false k4,eq_false k5,eq_false k6]|fail)
  exact fin _ _ w 1 2 3 hx.symm (by simp only [go_sem]) (by simp only [go_sem]) (by simp only [go_sem]) (by simp only [go_sem]) (by decide)
def ic35:IC:=sR [oP 1 (.box 33 (.t 0)),oP 2 (.alloc 33 [.nils,.nils,.nils,.nils])] (.seq (.drw [0,1,3,7,0,16,63,0,128,511,1023,2047,4095] [(0,fD 3 0 1),(1,lD 4 1 3),(2,oP 5 (.call 75 [.t 4])),(3,oP 6 (.call 74 [.t 5])),(4,fD 7 1 1),(5,lA 8 2 7),(6,oP 9 (.call 76 [.t 8])),(7,fD 10 3 1),(8,lD 11 1 10),(9,oP 12 (.call 78 [.t 11])),(10,oP 13 (.call 77 [.t 12])),(11,oP 14 (.build [.nils,.nils,.nils,.nils] [(0,(1,.t 6)),(1,(2,.t 9)),(3,(1,.t 13))])),(12,nP (.sto 4 (.t 2) (.t 14)))]) .ret)
theorem dg35:Dg Tryz.prog 35 Tryz.f35 ic35 [(.cell 2 4 true)]:=⟨Tryz.func35,by kernel_rfl,by kernel_rfl⟩
theorem x35 {X:List (E × E)} (w:M.World) (hw:WX X w):FnR Tryz.prog G 35 [.agg [.sl 10 (w.convs.map Conv.row),.sl 3 (w.door.map.map Pair.row),.sl 8 (w.door.flows.map Flw.row),.sl 7 (w.nets.map Pk.row)]] (.agg [.sl 10 (w.convs.map Conv.row),.sl 3 (w.door.map.map Pair.row),.sl 8 (w.door.flows.map Flw.row),.sl 7 (w.nets.map Pk.row)]):=by
  refine mF dg35 Tryz.ntmps35 ?_
  have hnl:=hw.nl
  have hcl:=hw.cl
  obtain ⟨hdm,hdf,_⟩:=doorOk_iff.1 hw.door
  have hml:=(mapOk_ports hdm).2
  simp only [ic35,go_sem]
  with_reducible repeat' (first|refine br ?_ ?_<;>intro h e<;>(try simp only [e,go_sem])<;>clear e|rw [i64w (by omega)]|refine sd ?_<;>try simp only [go_sem]|fail)
  refine callO (c75 (w.convs.map Conv.row) (by simp;omega)) [] 5 1 (by simp only [go_sem];first|done|simp) (by simp) (by rintro _ _ ⟨rfl,rfl⟩;simp) (by intro i hi;obtain rfl:i=0:=(by omega);simp only [go_sem]) ?_
  rintro _ _ ⟨rfl,rfl⟩
  simp only [go_sem]
  with_reducible repeat' (first|refine br ?_ ?_<;>intro h e<;>(try simp only [e,go_sem])<;>clear e|rw [i64w (by omega)]|refine sd ?_<;>try simp only [go_sem]|fail)
  refine callU (o74 (w.convs.map Conv.row) w.convs.length (by simp)) [100500] [] 6 1 (by simp only [go_sem];first|done|simp) (by simp only [go_sem];first|done|simp) (by simp) (by simp) (by rintro _ _ ⟨rfl,rfl⟩;simp) (by intro i hi;obtain rfl:i=0:=(by omega);simp only [go_sem]) ?_
  rintro _ _ ⟨rfl,rfl⟩
  simp only [go_sem]
  with_reducible repeat' (first|refine br ?_ ?_<;>intro h e<;>(try simp only [e,go_sem])<;>clear e|rw [i64w (by omega)]|refine sd ?_<;>try simp only [go_sem]|fail)
  refine callO (k76 (w.door.map.map Pair.row) w.door.flows (by simp;omega) (by omega) (copyC hw.door)) [] 9 1 (by simp only [go_sem];first|done|simp) (by simp) (by rintro _ _ ⟨rfl,rfl⟩;simp) (by intro i hi;obtain rfl:i=0:=(by omega);simp only [go_sem]) ?_
  rintro _ _ ⟨rfl,rfl⟩
  simp only [go_sem]
  with_reducible repeat' (first|refine br ?_ ?_<;>intro h e<;>(try simp only [e,go_sem])<;>clear e|rw [i64w (by omega)]|refine sd ?_<;>try simp only [go_sem]|fail)
  refine callO (c78 (w.nets.map Pk.row) (by simp;omega)) [] 12 1 (by simp only [go_sem];first|done|simp) (by simp) (by rintro _ _ ⟨rfl,rfl⟩;simp) (by intro i hi;obtain rfl:i=0:=(by omega);simp only [go_sem]) ?_
  rintro _ _ ⟨rfl,rfl⟩
  simp only [go_sem]
  with_reducible repeat' (first|refine br ?_ ?_<;>intro h e<;>(try simp only [e,go_sem])<;>clear e|rw [i64w (by omega)]|refine sd ?_<;>try simp only [go_sem]|fail)
  refine callU (o77 (w.nets.map Pk.row) w.nets.length (by simp)) [101200] [] 13 1 (by simp only [go_sem];first|done|simp) (by simp only [go_sem];first|done|simp) (by simp) (by simp) (by rintro _ _ ⟨rfl,rfl⟩;simp) (by intro i hi;obtain rfl:i=0:=(by omega);simp only [go_sem]) ?_
  rintro _ _ ⟨rfl,rfl⟩
  simp only [go_sem]
  with_reducible repeat' (first|refine br ?_ ?_<;>intro h e<;>(try simp only [e,go_sem])<;>clear e|rw [i64w (by omega)]|refine sd ?_<;>try simp only [go_sem]|fail)
def copyA (w:M.World) (r:V) (o:List Hs):Prop:=r=.agg [.own 0 w.convs.length,.sl 3 (w.door.map.map Pair.row),.own 1 w.door.flows.length,.own 2 w.nets.length] ∧
  o=[.arr 41 10 (w.convs.map Conv.row),.arr 46 8 (w.door.flows.map Flw.row),.arr 54 7 (w.nets.map Pk.row)]
theorem o35 {X:List (E × E)} (w:M.World) (hw:WX X w):FnP Tryz.prog G 35 0 [] [.agg [.sl 10 (w.convs.map Conv.row),.sl 3 (w.door.map.map Pair.row),.sl 8 (w.door.flows.map Flw.row),.sl 7 (w.nets.map Pk.row)]] (copyA w):=by
  refine mP dg35 Tryz.ntmps35 ⟨_,_,rfl,rfl⟩ ?_
  have hnl:=hw.nl
  have hcl:=hw.cl
  obtain ⟨hdm,hdf,_⟩:=doorOk_iff.1 hw.door
  have hml:=(mapOk_ports hdm).2
  simp only [ic35,go_sem]
  with_reducible repeat' (first|refine br ?_ ?_<;>intro h e<;>(try simp only [e,go_sem])<;>clear e|rw [i64w (by omega)]|refine sd ?_<;>try simp only [go_sem]|fail)
  refine callO (c75 (w.convs.map Conv.row) (by simp;omega)) [] 5 1 (by simp only [go_sem];first|done|simp) (by simp) (by rintro _ _ ⟨rfl,rfl⟩;simp) (by intro i hi;obtain rfl:i=0:=(by omega);simp only [go_sem]) ?_
  rintro _ _ ⟨rfl,rfl⟩
  simp only [go_sem]
  with_reducible repeat' (first|refine br ?_ ?_<;>intro h e<;>(try simp only [e,go_sem])<;>clear e|rw [i64w (by omega)]|refine sd ?_<;>try simp only [go_sem]|fail)
  refine callU (o74 (w.convs.map Conv.row) w.convs.length (by simp)) [100500] [] 6 1 (by simp only [go_sem];first|done|simp) (by simp only [go_sem];first|done|simp) (by simp) (by simp) (by rintro _ _ ⟨rfl,rfl⟩;simp) (by intro i hi;obtain rfl:i=0:=(by omega);simp only [go_sem]) ?_
  rintro _ _ ⟨rfl,rfl⟩
  simp only [go_sem]
  with_reducible repeat' (first|refine br ?_ ?_<;>intro h e<;>(try simp only [e,go_sem])<;>clear e|rw [i64w (by omega)]|refine sd ?_<;>try simp only [go_sem]|fail)
  refine callO (k76 (w.door.map.map Pair.row) w.door.flows (by simp;omega) (by omega) (copyC hw.door)) [] 9 1 (by simp only [go_sem];first|done|simp) (by simp) (by rintro _ _ ⟨rfl,rfl⟩;simp) (by intro i hi;obtain rfl:i=0:=(by omega);simp only [go_sem]) ?_
  rintro _ _ ⟨rfl,rfl⟩
  simp only [go_sem]
  with_reducible repeat' (first|refine br ?_ ?_<;>intro h e<;>(try simp only [e,go_sem])<;>clear e|rw [i64w (by omega)]|refine sd ?_<;>try simp only [go_sem]|fail)
  refine callO (c78 (w.nets.map Pk.row) (by simp;omega)) [] 12 1 (by simp only [go_sem];first|done|simp) (by simp) (by rintro _ _ ⟨rfl,rfl⟩;simp) (by intro i hi;obtain rfl:i=0:=(by omega);simp only [go_sem]) ?_
  rintro _ _ ⟨rfl,rfl⟩
  simp only [go_sem]
  with_reducible repeat' (first|refine br ?_ ?_<;>intro h e<;>(try simp only [e,go_sem])<;>clear e|rw [i64w (by omega)]|refine sd ?_<;>try simp only [go_sem]|fail)
  refine callU (o77 (w.nets.map Pk.row) w.nets.length (by simp)) [101200] [] 13 1 (by simp only [go_sem];first|done|simp) (by simp only [go_sem];first|done|simp) (by simp) (by simp) (by rintro _ _ ⟨rfl,rfl⟩;simp) (by intro i hi;obtain rfl:i=0:=(by omega);simp only [go_sem]) ?_
  rintro _ _ ⟨rfl,rfl⟩
  simp only [go_sem]
  with_reducible repeat' (first|refine br ?_ ?_<;>intro h e<;>(try simp only [e,go_sem])<;>clear e|rw [i64w (by omega)]|refine sd ?_<;>try simp only [go_sem]|fail)
  exact retN (.agg [.own 0 w.convs.length,.sl 3 (w.door.map.map Pair.row),.own 1 w.door.flows.length,.own 2 w.nets.length]) [.arr 41 10 (w.convs.map Conv.row),.arr 46 8 (w.door.flows.map Flw.row),.arr 54 7 (w.nets.map Pk.row)] [(0,100600),(1,100900),(2,101300)] (by simp only [go_sem]) ⟨rfl,rfl⟩ (by simp only [go_sem]) (by simp [argH,getN]) (by simp only [go_sem])
def ic24:IC:=sR [oP 4 (.mv (.c (.bool false)))] (.seq (sR [mV 6 0,oP 7 (.len (.t 6)),mV 8 1,oP 9 (.len (.t 8)),bN 10 .neq 7 9] (.cond (.t 10) (sR [oP 4 (.mv (.c (.bool false)))] .ret) .skip)) (.seq (sR [oP 5 (.mv (.c i0))] (.block 0 (.loop (.seq (sR [mV 11 5,mV 12 0,oP 13 (.len (.t 12)),bN 14 .lss 11 13] (.cond (.t 14) .skip (.exit 0))) (.seq (.block 1 (.seq (.drw [0,0,3,7,0,0,48,112,255] [(0,mV 17 0),(1,mV 18 5),(2,oP 19 (.iad 3 (.t 17) (.t 18))),(3,lA 20 3 19),(4,mV 21 1),(5,mV 22 5),(6,oP 23 (.iad 3 (.t 21) (.t 22))),(7,lA 24 3 23),(8,oP 25 (.eqs true [.i,.i,.i] (.t 20) (.t 24)))]) (.cond (.t 25) (sR [oP 4 (.mv (.c (.bool false)))] .ret) .skip))) (.reg [mV 15 5,oP 16 (.bin .add (.t 15) (.c (.int .i64 1))),mV 5 16])))))) (sR [oP 4 (.mv (.c (.bool true)))] .ret)))
theorem dg24:Dg Tryz.prog 24 Tryz.f24 ic24 [(.t 4)]:=⟨Tryz.func24,by kernel_rfl,by kernel_rfl⟩
theorem c24 (m:List Pair) (hl:m.length≤2000000):FnR Tryz.prog G 24 [.sl 3 (m.map Pair.row),.sl 3 (m.map Pair.row)] (.bool true):=by
  refine mF dg24 Tryz.ntmps24 ?_
  simp only [ic24,go_sem]
  with_reducible repeat' (first|refine br ?_ ?_<;>intro h e<;>(try simp only [e,go_sem])<;>clear e|rw [i64w (by omega)]|refine sd ?_<;>try simp only [go_sem]|fail)
  refine loopN (fun k:Nat=>⟨getL [(0,.sl 3 (m.map Pair.row)),(1,.sl 3 (m.map Pair.row)),(5,.int .i64 (k:Int))],getH []⟩) (fun k=>m.length - k) (fun k=>k≤m.length) 0 (leQ []) (Nat.zero_le _) ?_
  intro k hk
  simp only [go_sem]
  by_cases h:(k:Int)<m.length
  · have hil:k<m.length:=by omega
    have hg:m.getD k default=m[k]:=by simp [List.getD,hil]
    simp only [eq_true h,go_sem]
    with_reducible repeat' (first|refine br ?_ ?_<;>intro h e<;>(try simp only [e,go_sem,hg,E.ext_iff'])<;>clear e|rw [i64w (by omega)]|refine sd ?_<;>try simp only [go_sem,hg,E.ext_iff']|fail)
    exact ⟨k+1,by omega,by omega,(leQ [])⟩
  · simp only [eq_false h,go_sem]
def ic59:IC:=sR [oP 2 (.box 44 (.t 0)),oP 3 (.box 44 (.t 1)),oP 4 (.mv (.c (.bool false)))] (.seq (sR [fD 6 0 2,lD 7 1 6,fD 8 0 3,lD 9 1 8,bN 10 .neq 7 9,mV 11 10,⟨some 12,some (11,false),.fad 1 (.t 2)⟩,⟨some 13,some (11,false),.ld 1 false (.t 12)⟩,⟨some 14,some (11,false),.len (.t 13)⟩,⟨some 15,some (11,false),.fad 1 (.t 3)⟩,⟨some 16,some (11,false),.ld 1 false (.t 15)⟩,⟨some 17,some (11,false),.len (.t 16)⟩,⟨some 18,some (11,false),.bin .neq (.t 14) (.t 17)⟩,oP 19 (.pick (.t 11) (.c (.bool true)) (.t 18))] (.cond (.t 19) (sR [oP 4 (.mv (.c (.bool false)))] .ret) .skip)) (.seq (sR [oP 5 (.mv (.c i0))] (.block 0 (.loop (.seq (sR [mV 20 5,fD 21 1 2,lD 22 1 21,oP 23 (.len (.t 22)),bN 24 .lss 20 23] (.cond (.t 24) .skip (.exit 0))) (.seq (.block 1 (.seq (.drw [0,1,0,7,15,0,32,0,224,480,1023] [(0,fD 27 1 2),(1,lD 28 1 27),(2,mV 29 5),(3,oP 30 (.iad 2 (.t 28) (.t 29))),(4,lA 31 2 30),(5,fD 32 1 3),(6,lD 33 1 32),(7,mV 34 5),(8,oP 35 (.iad 2 (.t 33) (.t 34))),(9,lA 36 2 35),(10,oP 37 (.eqs true [.i,.s] (.t 31) (.t 36)))]) (.cond (.t 37) (sR [oP 4 (.mv (.c (.bool false)))] .ret) .skip))) (.reg [mV 25 5,oP 26 (.bin .add (.t 25) (.c (.int .i64 1))),mV 5 26])))))) (sR [oP 4 (.mv (.c (.bool true)))] .ret)))
theorem dg59:Dg Tryz.prog 59 Tryz.f59 ic59 [(.t 4)]:=⟨Tryz.func59,by kernel_rfl,by kernel_rfl⟩
theorem c59 (s:Strm) (hl:s.parts.length≤2000000):FnR Tryz.prog G 59 [.agg [.str s.inn,.sl 2 (s.parts.map Part.row)],.agg [.str s.inn,.sl 2 (s.parts.map Part.row)]] (.bool true):=by
  refine mF dg59 Tryz.ntmps59 ?_
  simp only [ic59,go_sem]
  with_reducible repeat' (first|refine br ?_ ?_<;>intro h e<;>(try simp only [e,go_sem])<;>clear e|rw [i64w (by omega)]|refine sd ?_<;>try simp only [go_sem]|fail)
  refine loopN (fun k:Nat=>⟨getL [(2,.pv 1002 0),(3,.pv 1003 0),(5,.int .i64 (k:Int))],getH [(1002,.var 44 [.str s.inn,.sl 2 (s.parts.map Part.row)]),(1003,.var 44 [.str s.inn,.sl 2 (s.parts.map Part.row)])]⟩) (fun k=>s.parts.length - k) (fun k=>k≤s.parts.length) 0 (leQ []) (Nat.zero_le _) ?_
  intro k hk
  simp only [go_sem]
  by_cases h:(k:Int)<s.parts.length
  · have hil:k<s.parts.length:=by omega
    have hg:s.parts.getD k default=s.parts[k]:=by simp [List.getD,hil]
    simp only [eq_true h,go_sem]
    with_reducible repeat' (first|refine br ?_ ?_<;>intro h e<;>(try simp only [e,go_sem,hg])<;>clear e|rw [i64w (by omega)]|refine sd ?_<;>try simp only [go_sem,hg]|fail)
    exact ⟨k+1,by omega,by omega,(leQ [])⟩
  · simp only [eq_false h,go_sem]
def ic25:IC:=sR [oP 2 (.box 30 (.t 0)),oP 3 (.box 30 (.t 1)),oP 4 (.mv (.c (.bool false)))] (.seq (sR [fD 8 0 2,lD 9 1 8,fD 10 0 3,lD 11 1 10,oP 12 (.call 24 [.t 9,.t 11]),oP 13 (.un .not (.t 12)),mV 14 13,⟨some 15,some (14,false),.fad 1 (.t 2)⟩,⟨some 16,some (14,false),.ld 1 false (.t 15)⟩,⟨some 17,some (14,false),.len (.t 16)⟩,⟨some 18,some (14,false),.fad 1 (.t 3)⟩,⟨some 19,some (14,false),.ld 1 false (.t 18)⟩,⟨some 20,some (14,false),.len (.t 19)⟩,⟨some 21,some (14,false),.bin .neq (.t 17) (.t 20)⟩,oP 22 (.pick (.t 14) (.c (.bool true)) (.t 21))] (.cond (.t 22) (sR [oP 4 (.mv (.c (.bool false)))] .ret) .skip)) (.seq (sR [oP 5 (.mv (.c i0))] (.block 0 (.loop (.seq (sR [mV 23 5,fD 24 1 2,lD 25 1 24,oP 26 (.len (.t 25)),bN 27 .lss 23 26] (.cond (.t 27) .skip (.exit 0))) (.seq (.block 1 (sR [fD 30 1 2,lD 31 1 30,mV 32 5,oP 33 (.iad 8 (.t 31) (.t 32)),lA 34 8 33,oP 6 (.alloc 46 [i0,i0,i0,i0,s0,.nils,s0,.nils]),nP (.sto 8 (.t 6) (.t 34))] (sR [fD 35 1 3,lD 36 1 35,mV 37 5,oP 38 (.iad 8 (.t 36) (.t 37)),lA 39 8 38,oP 7 (.alloc 46 [i0,i0,i0,i0,s0,.nils,s0,.nils]),nP (.sto 8 (.t 7) (.t 39))] (sR [fD 40 0 6,lA 41 2 40,fD 42 0 7,lA 43 2 42,oP 44 (.eqs true [.i,.i] (.t 41) (.t 43)),mV 45 44,⟨some 46,some (45,false),.fad 2 (.t 6)⟩,⟨some 47,some (45,false),.ld 2 true (.t 46)⟩,⟨some 48,some (45,false),.fad 2 (.t 7)⟩,⟨some 49,some (45,false),.ld 2 true (.t 48)⟩,⟨some 50,some (45,false),.eqs true [.i,.i] (.t 47) (.t 49)⟩,oP 51 (.pick (.t 45) (.c (.bool true)) (.t 50)),mV 52 51,⟨some 53,some (52,false),.fad 4 (.t 6)⟩,⟨some 54,some (52,false),.ld 2 true (.t 53)⟩,⟨some 55,some (52,false),.fad 4 (.t 7)⟩,⟨some 56,some (52,false),.ld 2 true (.t 55)⟩,⟨some 57,some (52,false),.call 59 [.t 54,.t 56]⟩,⟨some 58,some (52,false),.un .not (.t 57)⟩,oP 59 (.pick (.t 52) (.c (.bool true)) (.t 58)),mV 60 59,⟨some 61,some (60,false),.fad 6 (.t 6)⟩,⟨some 62,some (60,false),.ld 2 true (.t 61)⟩,⟨some 63,some (60,false),.fad 6 (.t 7)⟩,⟨some 64,some (60,false),.ld 2 true (.t 63)⟩,⟨some 65,some (60,false),.call 59 [.t 62,.t 64]⟩,⟨some 66,some (60,false),.un .not (.t 65)⟩,oP 67 (.pick (.t 60) (.c (.bool true)) (.t 66))] (.cond (.t 67) (sR [oP 4 (.mv (.c (.bool false)))] .ret) .skip))))) (.reg [mV 28 5,oP 29 (.bin .add (.t 28) (.c (.int .i64 1))),mV 5 29])))))) (sR [oP 4 (.mv (.c (.bool true)))] .ret)))
theorem dg25:Dg Tryz.prog 25 Tryz.f25 ic25 [(.t 4)]:=⟨Tryz.func25,by kernel_rfl,by kernel_rfl⟩
theorem c25 (d:Door) (hm:d.map.length≤2000000) (hf:d.flows.length≤2000000) (h:∀ f∈d.flows,f.up.parts.length≤2000000∧f.down.parts.length≤2000000):FnR Tryz.prog G 25 [.agg [.sl 3 (d.map.map Pair.row),.sl 8 (d.flows.map Flw.row)],.agg [.sl 3 (d.map.map Pair.row),.sl 8 (d.flows.map Flw.row)]] (.bool true):=by
  refine mF dg25 Tryz.ntmps25 ?_
  have f1:=c24 d.map hm
  simp only [ic25,go_sem]
  with_reducible repeat' (first|refine br ?_ ?_<;>intro h e<;>(try simp only [e,go_sem])<;>clear e|rw [i64w (by omega)]|refine sd ?_<;>try simp only [go_sem]|(first|refine cr (f1 ..) ?_)<;>try simp only [go_sem]|fail)
  refine loopN (fun k:Nat=>⟨getL [(2,.pv 1002 0),(3,.pv 1003 0),(5,.int .i64 (k:Int))],getH [(1002,.var 30 [.sl 3 (d.map.map Pair.row),.sl 8 (d.flows.map Flw.row)]),(1003,.var 30 [.sl 3 (d.map.map Pair.row),.sl 8 (d.flows.map Flw.row)])]⟩) (fun k=>d.flows.length - k) (fun k=>k≤d.flows.length) 0 (leQ []) (Nat.zero_le _) ?_
  intro k hk
  simp only [go_sem]
  by_cases hk2:(k:Int)<d.flows.length
  · have hil:k<d.flows.length:=by omega
    have hg:d.flows.getD k default=d.flows[k]:=by simp [List.getD,hil]
    have hb:=h _ (List.getElem_mem hil)
    have s1:=c59 d.flows[k].up hb.1
    have s2:=c59 d.flows[k].down hb.2
    simp only [eq_true hk2,go_sem]
    with_reducible repeat' (first|refine br ?_ ?_<;>intro h e<;>(try simp only [e,go_sem,hg,E.ext_iff'])<;>clear e|rw [i64w (by omega)]|refine sd ?_<;>try simp only [go_sem,hg,E.ext_iff']|(first|refine cr (s1 ..) ?_|refine cr (s2 ..) ?_)<;>try simp only [go_sem,hg,E.ext_iff']|fail)
    all_goals first
      | exact ⟨k+1,by omega,by omega,(leQ [])⟩
      | skip
  · simp only [eq_false hk2,go_sem]
structure WB (w:M.World):Prop where
  c:w.convs.length≤2000000
  n:w.nets.length≤2000000
  m:w.door.map.length≤2000000
  f:w.door.flows.length≤2000000
  s:∀ f∈w.door.flows,f.up.parts.length≤2000000∧f.down.parts.length≤2000000
def ic13:IC:=sR [oP 2 (.box 33 (.t 0)),oP 3 (.box 33 (.t 1)),oP 4 (.mv (.c (.bool false)))] (.seq (sR [fD 7 0 2,lD 8 1 7,oP 9 (.len (.t 8)),fD 10 0 3,lD 11 1 10,oP 12 (.len (.t 11)),bN 13 .neq 9 12,mV 14 13,⟨some 15,some (14,false),.fad 3 (.t 2)⟩,⟨some 16,some (14,false),.ld 1 false (.t 15)⟩,⟨some 17,some (14,false),.len (.t 16)⟩,⟨some 18,some (14,false),.fad 3 (.t 3)⟩,⟨some 19,some (14,false),.ld 1 false (.t 18)⟩,⟨some 20,some (14,false),.len (.t 19)⟩,⟨some 21,some (14,false),.bin .neq (.t 17) (.t 20)⟩,oP 22 (.pick (.t 14) (.c (.bool true)) (.t 21)),mV 23 22,⟨some 24,some (23,false),.fad 1 (.t 2)⟩,⟨some 25,some (23,false),.ld 2 true (.t 24)⟩,⟨some 26,some (23,false),.fad 1 (.t 3)⟩,⟨some 27,some (23,false),.ld 2 true (.t 26)⟩,⟨some 28,some (23,false),.call 25 [.t 25,.t 27]⟩,⟨some 29,some (23,false),.un .not (.t 28)⟩,oP 30 (.pick (.t 23) (.c (.bool true)) (.t 29))] (.cond (.t 30) (sR [oP 4 (.mv (.c (.bool false)))] .ret) .skip)) (.seq (sR [oP 5 (.mv (.c i0))] (.block 0 (.loop (.seq (sR [mV 31 5,fD 32 0 2,lD 33 1 32,oP 34 (.len (.t 33)),bN 35 .lss 31 34] (.cond (.t 35) .skip (.exit 0))) (.seq (.block 1 (.seq (.drw [0,1,0,7,15,0,32,0,224,480,1023] [(0,fD 38 0 2),(1,lD 39 1 38),(2,mV 40 5),(3,oP 41 (.iad 10 (.t 39) (.t 40))),(4,lA 42 10 41),(5,fD 43 0 3),(6,lD 44 1 43),(7,mV 45 5),(8,oP 46 (.iad 10 (.t 44) (.t 45))),(9,lA 47 10 46),(10,oP 48 (.eqs true [.i,.i,.i,.i,.s,.s,.i,.i,.s,.s] (.t 42) (.t 47)))]) (.cond (.t 48) (sR [oP 4 (.mv (.c (.bool false)))] .ret) .skip))) (.reg [mV 36 5,oP 37 (.bin .add (.t 36) (.c (.int .i64 1))),mV 5 37])))))) (.seq (sR [oP 6 (.mv (.c i0))] (.block 2 (.loop (.seq (sR [mV 49 6,fD 50 3 2,lD 51 1 50,oP 52 (.len (.t 51)),bN 53 .lss 49 52] (.cond (.t 53) .skip (.exit 2))) (.seq (.block 3 (.seq (.drw [0,1,0,7,15,0,32,0,224,480,1023] [(0,fD 56 3 2),(1,lD 57 1 56),(2,mV 58 6),(3,oP 59 (.iad 7 (.t 57) (.t 58))),(4,lA 60 7 59),(5,fD 61 3 3),(6,lD 62 1 61),(7,mV 63 6),(8,oP 64 (.iad 7 (.t 62) (.t 63))),(9,lA 65 7 64),(10,oP 66 (.eqs true [.i,.i,.i,.i,.i,.i,.s] (.t 60) (.t 65)))]) (.cond (.t 66) (sR [oP 4 (.mv (.c (.bool false)))] .ret) .skip))) (.reg [mV 54 6,oP 55 (.bin .add (.t 54) (.c (.int .i64 1))),mV 6 55])))))) (sR [oP 4 (.mv (.c (.bool true)))] .ret))))
theorem dg13:Dg Tryz.prog 13 Tryz.f13 ic13 [(.t 4)]:=⟨Tryz.func13,by kernel_rfl,by kernel_rfl⟩
theorem c13 (w:M.World) (hw:WB w):FnR Tryz.prog G 13 [.agg [.sl 10 (w.convs.map Conv.row),.sl 3 (w.door.map.map Pair.row),.sl 8 (w.door.flows.map Flw.row),.sl 7 (w.nets.map Pk.row)],.agg [.sl 10 (w.convs.map Conv.row),.sl 3 (w.door.map.map Pair.row),.sl 8 (w.door.flows.map Flw.row),.sl 7 (w.nets.map Pk.row)]] (.bool true):=by
  refine mF dg13 Tryz.ntmps13 ?_
  obtain ⟨h1,h2,h3,h4,h5⟩:=hw
  have f1:=c25 w.door h3 h4 h5
  simp only [ic13,go_sem]
  with_reducible repeat' (first|refine br ?_ ?_<;>intro h e<;>(try simp only [e,go_sem])<;>clear e|rw [i64w (by omega)]|refine sd ?_<;>try simp only [go_sem]|(first|refine cr (f1 ..) ?_)<;>try simp only [go_sem]|fail)
  refine loopN (fun k:Nat=>⟨getL [(2,.pv 1002 0),(3,.pv 1003 0),(5,.int .i64 (k:Int))],getH [(1002,.var 33 [.sl 10 (w.convs.map Conv.row),.sl 3 (w.door.map.map Pair.row),.sl 8 (w.door.flows.map Flw.row),.sl 7 (w.nets.map Pk.row)]),(1003,.var 33 [.sl 10 (w.convs.map Conv.row),.sl 3 (w.door.map.map Pair.row),.sl 8 (w.door.flows.map Flw.row),.sl 7 (w.nets.map Pk.row)])]⟩) (fun k=>w.convs.length - k) (fun k=>k≤w.convs.length) 0 (leQ []) (Nat.zero_le _) ?_
  intro k hk
  simp only [go_sem]
  by_cases hk2:(k:Int)<w.convs.length
  · have hil:k<w.convs.length:=by omega
    have hg:w.convs.getD k default=w.convs[k]:=by simp [List.getD,hil]
    simp only [eq_true hk2,go_sem]
    with_reducible repeat' (first|refine br ?_ ?_<;>intro h e<;>(try simp only [e,go_sem,hg,E.ext_iff'])<;>clear e|rw [i64w (by omega)]|refine sd ?_<;>try simp only [go_sem,hg,E.ext_iff']|fail)
    exact ⟨k+1,by omega,by omega,(leQ [])⟩
  simp only [eq_false hk2,go_sem]
  refine loopN (fun k:Nat=>⟨getL [(2,.pv 1002 0),(3,.pv 1003 0),(6,.int .i64 (k:Int))],getH [(1002,.var 33 [.sl 10 (w.convs.map Conv.row),.sl 3 (w.door.map.map Pair.row),.sl 8 (w.door.flows.map Flw.row),.sl 7 (w.nets.map Pk.row)]),(1003,.var 33 [.sl 10 (w.convs.map Conv.row),.sl 3 (w.door.map.map Pair.row),.sl 8 (w.door.flows.map Flw.row),.sl 7 (w.nets.map Pk.row)])]⟩) (fun k=>w.nets.length - k) (fun k=>k≤w.nets.length) 0 (leQ []) (Nat.zero_le _) ?_
  intro k hk
  simp only [go_sem]
  by_cases hk2:(k:Int)<w.nets.length
  · have hil:k<w.nets.length:=by omega
    have hg:w.nets.getD k default=w.nets[k]:=by simp [List.getD,hil]
    simp only [eq_true hk2,go_sem]
    with_reducible repeat' (first|refine br ?_ ?_<;>intro h e<;>(try simp only [e,go_sem,hg,E.ext_iff'])<;>clear e|rw [i64w (by omega)]|refine sd ?_<;>try simp only [go_sem,hg,E.ext_iff']|fail)
    exact ⟨k+1,by omega,by omega,(leQ [])⟩
  · simp only [eq_false hk2,go_sem]
def endQ (r:V):Prop:=∃ e:E,(0≤e.a∧e.a≤12)∧(0≤e.p∧e.p≤20)∧r=.agg [.int .i64 e.a,.int .i64 e.p]
def ic146:IC:=sR [oP 2 (.alloc 39 [i0,i0])] (.seq (sR [mV 3 0,oP 4 (.call 32 [.t 3,.c (.int .i64 12)])] (.block 0 (.seq (sR [oP 6 (.bin .eql (.t 4) (.c i0)),mV 5 6] (.cond (.t 5) .skip (sR [oP 7 (.bin .eql (.t 4) (.c (.int .i64 1))),mV 5 7] (.cond (.t 5) .skip (sR [oP 8 (.bin .eql (.t 4) (.c (.int .i64 2))),mV 5 8] (.cond (.t 5) .skip (.reg [oP 9 (.bin .eql (.t 4) (.c (.int .i64 3))),mV 5 9]))))))) (.cond (.t 5) (sR [mV 10 0,oP 11 (.call 32 [.t 10,.c (.int .i64 3)]),oP 12 (.bin .add (.c (.int .i64 1)) (.t 11)),mV 13 0,oP 14 (.call 32 [.t 13,.c (.int .i64 9)]),oP 15 (.bin .add (.c (.int .i64 1)) (.t 14)),oP 16 (.build [i0,i0] [(0,(1,.t 12)),(1,(1,.t 15))]),nP (.sto 2 (.t 2) (.t 16))] .ret) (.seq (sR [oP 18 (.bin .eql (.t 4) (.c (.int .i64 4))),mV 17 18] (.cond (.t 17) .skip (sR [oP 19 (.bin .eql (.t 4) (.c (.int .i64 5))),mV 17 19] (.cond (.t 17) .skip (.reg [oP 20 (.bin .eql (.t 4) (.c (.int .i64 6))),mV 17 20]))))) (.cond (.t 17) (sR [mV 21 0,oP 22 (.call 32 [.t 21,.c (.int .i64 3)]),oP 23 (.bin .add (.c (.int .i64 4)) (.t 22)),mV 24 0,oP 25 (.call 32 [.t 24,.c (.int .i64 9)]),oP 26 (.bin .add (.c (.int .i64 1)) (.t 25)),oP 27 (.build [i0,i0] [(0,(1,.t 23)),(1,(1,.t 26))]),nP (.sto 2 (.t 2) (.t 27))] .ret) (.seq (sR [oP 29 (.bin .eql (.t 4) (.c (.int .i64 7))),mV 28 29] (.cond (.t 28) .skip (sR [oP 30 (.bin .eql (.t 4) (.c (.int .i64 8))),mV 28 30] (.cond (.t 28) .skip (sR [oP 31 (.bin .eql (.t 4) (.c (.int .i64 9))),mV 28 31] (.cond (.t 28) .skip (.reg [oP 32 (.bin .eql (.t 4) (.c (.int .i64 10))),mV 28 32]))))))) (.cond (.t 28) (sR [mV 33 0,oP 34 (.call 32 [.t 33,.c (.int .i64 8)]),oP 35 (.bin .add (.c (.int .i64 10)) (.t 34)),oP 36 (.build [i0,i0] [(0,(1,.c (.int .i64 9))),(1,(1,.t 35))]),nP (.sto 2 (.t 2) (.t 36))] .ret) .skip)))))))) (sR [mV 37 0,oP 38 (.call 32 [.t 37,.c (.int .i64 12)]),mV 39 0,oP 40 (.call 32 [.t 39,.c (.int .i64 20)]),oP 41 (.build [i0,i0] [(0,(1,.t 38)),(1,(1,.t 40))]),nP (.sto 2 (.t 2) (.t 41))] .ret))
theorem dg146:Dg Tryz.prog 146 Tryz.f146 ic146 [(.cell 2 2 true)]:=⟨Tryz.func146,by kernel_rfl,by kernel_rfl⟩
theorem c146 (code:B) (p:Int) (hc:code.length≤2000) (hp:0≤p∧p≤900000000):FnP Tryz.prog G 146 1 [rdH code p] [.pv 0 0] (rdQ code p 3 endQ):=by
  refine mP dg146 Tryz.ntmps146 ⟨_,_,p,by omega,by omega,rfl,⟨0,0⟩,by simp,by simp,rfl⟩ ?_
  have fin:∀ l mm (p' a b:Int),p≤p'∧p'≤p+3→(0≤a∧a≤12)→(0≤b∧b≤20)→getL l 2=.pv 1002 0→getH mm 1002=.var 39 [.int .i64 a,.int .i64 b]→getH mm 0=.var 104 [.sl 1 (code.map byR),.int .i64 p'] →
      retQ [.cell 2 2 true] 1 (rdQ code p 3 endQ) .ret ⟨getL l,getH mm⟩:=fun l mm p' a b h1 h2 h3 h4 h5 h6=>by
    refine retN (.agg [.int .i64 a,.int .i64 b]) [rdH code p'] [] ?_ ⟨p',h1.1,h1.2,rfl,⟨a,b⟩,h2,h3,rfl⟩ ?_ (by simp [argH,getN,rdH]) (by simp only [go_sem,rdH])
    · simp only [go_sem,h4,h5]
    · simp only [go_sem,h6,rdH]
  simp only [ic146,go_sem,rdH]
  refine pkN code p 12 4 hc fun k k1 k2=>?_
  simp only [go_sem,rdH]
  with_reducible repeat' (first|rw [i64w (by omega)];try simp only [go_sem]|refine br ?_ ?_<;>intro h e<;>(try simp only [e,go_sem])<;>clear e|refine sd ?_<;>try simp only [go_sem]|fail)
  · have:=0
    refine pkN code (p+1) 3 11 hc fun a a1 a2=>?_
    simp only [go_sem,rdH]
    have a2:=a2 (by omega)
    with_reducible repeat' (first|rw [i64w (by omega)];try simp only [go_sem]|refine br ?_ ?_<;>intro h e<;>(try simp only [e,go_sem])<;>clear e|refine sd ?_<;>try simp only [go_sem]|fail)
    refine pkN code (p+1+1) 9 14 hc fun b b1 b2=>?_
    simp only [go_sem,rdH]
    have b2:=b2 (by omega)
    with_reducible repeat' (first|rw [i64w (by omega)];try simp only [go_sem]|refine br ?_ ?_<;>intro h e<;>(try simp only [e,go_sem])<;>clear e|refine sd ?_<;>try simp only [go_sem]|fail)
    exact fin _ _ (p+1+1+1) (1+a) (1+b) (by omega) (by omega) (by omega) (by simp only [go_sem]) (by simp only [go_sem]) (by simp only [go_sem])
  · have:=0
    refine pkN code (p+1) 3 11 hc fun a a1 a2=>?_
    simp only [go_sem,rdH]
    have a2:=a2 (by omega)
    with_reducible repeat' (first|rw [i64w (by omega)];try simp only [go_sem]|refine br ?_ ?_<;>intro h e<;>(try simp only [e,go_sem])<;>clear e|refine sd ?_<;>try simp only [go_sem]|fail)
    refine pkN code (p+1+1) 9 14 hc fun b b1 b2=>?_
    simp only [go_sem,rdH]
    have b2:=b2 (by omega)
    with_reducible repeat' (first|rw [i64w (by omega)];try simp only [go_sem]|refine br ?_ ?_<;>intro h e<;>(try simp only [e,go_sem])<;>clear e|refine sd ?_<;>try simp only [go_sem]|fail)
    exact fin _ _ (p+1+1+1) (1+a) (1+b) (by omega) (by omega) (by omega) (by simp only [go_sem]) (by simp only [go_sem]) (by simp only [go_sem])
  · have:=0
    refine pkN code (p+1) 3 11 hc fun a a1 a2=>?_
    simp only [go_sem,rdH]
    have a2:=a2 (by omega)
    with_reducible repeat' (first|rw [i64w (by omega)];try simp only [go_sem]|refine br ?_ ?_<;>intro h e<;>(try simp only [e,go_sem])<;>clear e|refine sd ?_<;>try simp only [go_sem]|fail)
    refine pkN code (p+1+1) 9 14 hc fun b b1 b2=>?_
    simp only [go_sem,rdH]
    have b2:=b2 (by omega)
    with_reducible repeat' (first|rw [i64w (by omega)];try simp only [go_sem]|refine br ?_ ?_<;>intro h e<;>(try simp only [e,go_sem])<;>clear e|refine sd ?_<;>try simp only [go_sem]|fail)
    exact fin _ _ (p+1+1+1) (1+a) (1+b) (by omega) (by omega) (by omega) (by simp only [go_sem]) (by simp only [go_sem]) (by simp only [go_sem])
  · have:=0
    refine pkN code (p+1) 3 11 hc fun a a1 a2=>?_
    simp only [go_sem,rdH]
    have a2:=a2 (by omega)
    with_reducible repeat' (first|rw [i64w (by omega)];try simp only [go_sem]|refine br ?_ ?_<;>intro h e<;>(try simp only [e,go_sem])<;>clear e|refine sd ?_<;>try simp only [go_sem]|fail)
    refine pkN code (p+1+1) 9 14 hc fun b b1 b2=>?_
    simp only [go_sem,rdH]
    have b2:=b2 (by omega)
    with_reducible repeat' (first|rw [i64w (by omega)];try simp only [go_sem]|refine br ?_ ?_<;>intro h e<;>(try simp only [e,go_sem])<;>clear e|refine sd ?_<;>try simp only [go_sem]|fail)
    exact fin _ _ (p+1+1+1) (1+a) (1+b) (by omega) (by omega) (by omega) (by simp only [go_sem]) (by simp only [go_sem]) (by simp only [go_sem])
  · have:=0
    refine pkN code (p+1) 3 22 hc fun a a1 a2=>?_
    simp only [go_sem,rdH]
    have a2:=a2 (by omega)
    with_reducible repeat' (first|rw [i64w (by omega)];try simp only [go_sem]|refine br ?_ ?_<;>intro h e<;>(try simp only [e,go_sem])<;>clear e|refine sd ?_<;>try simp only [go_sem]|fail)
    refine pkN code (p+1+1) 9 25 hc fun b b1 b2=>?_
    simp only [go_sem,rdH]
    have b2:=b2 (by omega)
    with_reducible repeat' (first|rw [i64w (by omega)];try simp only [go_sem]|refine br ?_ ?_<;>intro h e<;>(try simp only [e,go_sem])<;>clear e|refine sd ?_<;>try simp only [go_sem]|fail)
    exact fin _ _ (p+1+1+1) (4+a) (1+b) (by omega) (by omega) (by omega) (by simp only [go_sem]) (by simp only [go_sem]) (by simp only [go_sem])
  · have:=0
    refine pkN code (p+1) 3 22 hc fun a a1 a2=>?_
    simp only [go_sem,rdH]
    have a2:=a2 (by omega)
    with_reducible repeat' (first|rw [i64w (by omega)];try simp only [go_sem]|refine br ?_ ?_<;>intro h e<;>(try simp only [e,go_sem])<;>clear e|refine sd ?_<;>try simp only [go_sem]|fail)
    refine pkN code (p+1+1) 9 25 hc fun b b1 b2=>?_
    simp only [go_sem,rdH]
    have b2:=b2 (by omega)
    with_reducible repeat' (first|rw [i64w (by omega)];try simp only [go_sem]|refine br ?_ ?_<;>intro h e<;>(try simp only [e,go_sem])<;>clear e|refine sd ?_<;>try simp only [go_sem]|fail)
    exact fin _ _ (p+1+1+1) (4+a) (1+b) (by omega) (by omega) (by omega) (by simp only [go_sem]) (by simp only [go_sem]) (by simp only [go_sem])
  · have:=0
    refine pkN code (p+1) 3 22 hc fun a a1 a2=>?_
    simp only [go_sem,rdH]
    have a2:=a2 (by omega)
    with_reducible repeat' (first|rw [i64w (by omega)];try simp only [go_sem]|refine br ?_ ?_<;>intro h e<;>(try simp only [e,go_sem])<;>clear e|refine sd ?_<;>try simp only [go_sem]|fail)
    refine pkN code (p+1+1) 9 25 hc fun b b1 b2=>?_
    simp only [go_sem,rdH]
    have b2:=b2 (by omega)
    with_reducible repeat' (first|rw [i64w (by omega)];try simp only [go_sem]|refine br ?_ ?_<;>intro h e<;>(try simp only [e,go_sem])<;>clear e|refine sd ?_<;>try simp only [go_sem]|fail)
    exact fin _ _ (p+1+1+1) (4+a) (1+b) (by omega) (by omega) (by omega) (by simp only [go_sem]) (by simp only [go_sem]) (by simp only [go_sem])
  · have:=0
    refine pkN code (p+1) 8 34 hc fun a a1 a2=>?_
    simp only [go_sem,rdH]
    have a2:=a2 (by omega)
    with_reducible repeat' (first|rw [i64w (by omega)];try simp only [go_sem]|refine br ?_ ?_<;>intro h e<;>(try simp only [e,go_sem])<;>clear e|refine sd ?_<;>try simp only [go_sem]|fail)
    exact fin _ _ (p+1+1) (9) (10+a) (by omega) (by omega) (by omega) (by simp only [go_sem]) (by simp only [go_sem]) (by simp only [go_sem])
  · have:=0
    refine pkN code (p+1) 8 34 hc fun a a1 a2=>?_
    simp only [go_sem,rdH]
    have a2:=a2 (by omega)
    with_reducible repeat' (first|rw [i64w (by omega)];try simp only [go_sem]|refine br ?_ ?_<;>intro h e<;>(try simp only [e,go_sem])<;>clear e|refine sd ?_<;>try simp only [go_sem]|fail)
    exact fin _ _ (p+1+1) (9) (10+a) (by omega) (by omega) (by omega) (by simp only [go_sem]) (by simp only [go_sem]) (by simp only [go_sem])
  · have:=0
    refine pkN code (p+1) 8 34 hc fun a a1 a2=>?_
    simp only [go_sem,rdH]
    have a2:=a2 (by omega)
    with_reducible repeat' (first|rw [i64w (by omega)];try simp only [go_sem]|refine br ?_ ?_<;>intro h e<;>(try simp only [e,go_sem])<;>clear e|refine sd ?_<;>try simp only [go_sem]|fail)
    exact fin _ _ (p+1+1) (9) (10+a) (by omega) (by omega) (by omega) (by simp only [go_sem]) (by simp only [go_sem]) (by simp only [go_sem])
  · have:=0
    refine pkN code (p+1) 8 34 hc fun a a1 a2=>?_
    simp only [go_sem,rdH]
    have a2:=a2 (by omega)
    with_reducible repeat' (first|rw [i64w (by omega)];try simp only [go_sem]|refine br ?_ ?_<;>intro h e<;>(try simp only [e,go_sem])<;>clear e|refine sd ?_<;>try simp only [go_sem]|fail)
    exact fin _ _ (p+1+1) (9) (10+a) (by omega) (by omega) (by omega) (by simp only [go_sem]) (by simp only [go_sem]) (by simp only [go_sem])
  · have:=0
    refine pkN code (p+1) 12 38 hc fun a a1 a2=>?_
    simp only [go_sem,rdH]
    have a2:=a2 (by omega)
    with_reducible repeat' (first|rw [i64w (by omega)];try simp only [go_sem]|refine br ?_ ?_<;>intro h e<;>(try simp only [e,go_sem])<;>clear e|refine sd ?_<;>try simp only [go_sem]|fail)
    refine pkN code (p+1+1) 20 40 hc fun b b1 b2=>?_
    simp only [go_sem,rdH]
    have b2:=b2 (by omega)
    with_reducible repeat' (first|rw [i64w (by omega)];try simp only [go_sem]|refine br ?_ ?_<;>intro h e<;>(try simp only [e,go_sem])<;>clear e|refine sd ?_<;>try simp only [go_sem]|fail)
    exact fin _ _ (p+1+1+1) (a) (b) (by omega) (by omega) (by omega) (by simp only [go_sem]) (by simp only [go_sem]) (by simp only [go_sem])
def ic147:IC:=sR [oP 4 (.mv (.c s0))] (sR [mV 5 1,mV 6 0,mV 7 1,oP 8 (.len (.t 7)),oP 9 (.call 32 [.t 6,.t 8]),oP 10 (.iad 1 (.t 5) (.t 9)),lD 11 1 10,mV 4 11] .ret)
theorem dg147:Dg Tryz.prog 147 Tryz.f147 ic147 [(.t 4)]:=⟨Tryz.func147,by kernel_rfl,by kernel_rfl⟩
theorem c147 (code:B) (p:Int) (xs:List B) (hc:code.length≤2000) (hp:0≤p∧p≤900000000) (hx:1≤xs.length∧xs.length≤1000):FnP Tryz.prog G 147 1 [rdH code p] [.pv 0 0,.sl 1 (xs.map fun x=>[.str x])] (rdQ code p 1 fun r=>∃ x,x∈xs∧r=.str x):=by
  obtain ⟨x0,hx0⟩:∃ x,x∈xs:=⟨xs[0],List.getElem_mem _⟩
  refine mP dg147 Tryz.ntmps147 ⟨_,_,p,by omega,by omega,rfl,x0,hx0,rfl⟩ ?_
  simp only [ic147,go_sem,rdH]
  refine pkN code p xs.length 9 hc fun k k1 k2=>?_
  simp only [go_sem,rdH]
  have k2:=k2 (by omega)
  refine effG (by omega) ?_
  have hk:k.toNat<xs.length:=by omega
  have hg:xs.getD k.toNat default=xs[k.toNat]:=by simp [List.getD,hk]
  simp only [go_sem,hg]
  exact retN (.str xs[k.toNat]) [rdH code (p+1)] [] (by simp only [go_sem]) ⟨p+1,by omega,by omega,rfl,_,List.getElem_mem _,rfl⟩ (by simp only [go_sem,rdH]) (by simp [argH,getN,rdH]) (by simp only [go_sem,rdH])
def strQ (n:Nat) (r:V):Prop:=∃ s:B,s.length≤n∧r=.str s
def bits10:List B:=[[97],[98,99],[64],[64,49],[59],[58,53],[120,49],[64,64],[64,49,58],[55]]
theorem bits10_le:∀ x∈bits10,x.length≤3:=by decide
def ic102:IC:=sR [oP 4 (.mv (.c s0))] (sR [oP 5 (.mv (.c s0))] (.seq (sR [mV 8 0,oP 9 (.call 32 [.t 8,.c (.int .i64 7)]),mV 6 9] (.block 0 (.loop (.seq (sR [mV 10 6,oP 11 (.bin .gtr (.t 10) (.c i0))] (.cond (.t 11) .skip (.exit 0))) (.seq (.block 1 (sR [mV 14 0,oP 15 (.bsl 9 1 [.c (.str [97]),.c (.str [98,99]),.c (.str [64]),.c (.str [64,49]),.c (.str [59]),.c (.str [58,53]),.c (.str [120,49]),.c (.str [64,64]),.c (.str [64,49,58]),.c (.str [55])]),oP 16 (.call 147 [.t 14,.t 15]),mV 7 16] (.seq (sR [mV 17 0,oP 18 (.call 32 [.t 17,.c (.int .i64 5)]),oP 19 (.bin .lss (.t 18) (.c (.int .i64 3)))] (.cond (.t 19) (.reg [mV 20 0,oP 21 (.call 146 [.t 20]),oP 22 (.call 148 [.t 21]),oP 23 (.bin .add (.c (.str [64])) (.t 22)),oP 24 (.bin .add (.t 23) (.c (.str [59]))),mV 7 24]) .skip)) (sR [mV 25 5,oP 26 (.lens (.t 25)),mV 27 7,oP 28 (.lens (.t 27)),bN 29 .add 26 28,mV 30 1,bN 31 .leq 29 30] (.cond (.t 31) (.reg [mV 32 5,mV 33 7,bN 34 .add 32 33,mV 5 34]) .skip))))) (.reg [mV 12 6,oP 13 (.bin .sub (.t 12) (.c (.int .i64 1))),mV 6 13])))))) (sR [mV 35 5,mV 4 35] .ret)))
theorem dg102:Dg Tryz.prog 102 Tryz.f102 ic102 [(.t 4)]:=⟨Tryz.func102,by kernel_rfl,by kernel_rfl⟩
theorem c102 (code:B) (p m:Int) (hc:code.length≤2000) (hp:0≤p∧p≤800000000) (hm:0≤m∧m≤40):FnP Tryz.prog G 102 1 [rdH code p] [.pv 0 0,.int .i64 m] (rdQ code p 31 (strQ 40)):=by
  refine mP dg102 Tryz.ntmps102 ⟨_,_,p,by omega,by omega,rfl,[],by simp,rfl⟩ ?_
  simp only [ic102,go_sem,rdH]
  refine pkN code p 7 9 hc fun k k1 k2=>?_
  simp only [go_sem,rdH]
  have k2:=k2 (by omega)
  refine loopN (fun a:B × Int × Int=>⟨getL [(0,.pv 0 0),(1,.int .i64 m),(5,.str a.1),(6,.int .i64 a.2.1)],getH [(0,.var 104 [.sl 1 (code.map byR),.int .i64 a.2.2])]⟩) (fun a=>a.2.1.toNat) (fun a=>(0≤a.2.1∧a.2.1≤6)∧(p≤a.2.2∧a.2.2≤p+1+5 * (6 - a.2.1))∧a.1.length≤40) ([],k,p+1) (leQ []) (by simp;omega) ?_
  intro ⟨s,n,q⟩ ⟨h1,h2,h3⟩
  simp only at h1 h2 h3
  simp only [go_sem]
  with_reducible repeat' (first|rw [i64w (by omega)];try simp only [go_sem]|refine br ?_ ?_<;>intro h e<;>(try simp only [e,go_sem])<;>clear e|refine sd ?_<;>try simp only [go_sem]|fail)
  · refine callN (c147 code q bits10 hc (by omega) (by decide)) [0] [1015] true 16 1 (by simp only [go_sem,rdH,bits10,List.mem_singleton];first|done|simp) (by simp only [go_sem,rdH];first|done|simp) (by simp) (by simp) (by simp only [List.mem_singleton];rintro c rfl;exact ⟨rfl,by simp⟩) ?_ ?_ ?_
    · rintro _ _ ⟨q',_,_,rfl,_⟩
      exact ⟨by simp,by simp,.inl rfl,fun i hi=>by obtain rfl:i=0:=(by omega);simp [chH,stepOk,rdH]⟩
    · intro i hi;obtain rfl:i=0:=(by omega);simp only [go_sem]
    rintro _ _ ⟨q',q1,q2,rfl,x,hx,rfl⟩
    have hxl:=bits10_le x hx
    simp only [go_sem,rdH]
    refine pkN code q' 5 18 hc fun j j1 j2=>?_
    simp only [go_sem,rdH]
    with_reducible repeat' (first|rw [i64w (by omega)];try simp only [go_sem]|refine br ?_ ?_<;>intro h e<;>(try simp only [e,go_sem])<;>clear e|refine sd ?_<;>try simp only [go_sem]|fail)
    · refine callN (c146 code (q'+1) hc (by omega)) [0] [] true 21 1 (by simp only [go_sem,rdH];first|done|simp) (by simp only [go_sem,rdH];first|done|simp) (by simp) (by simp) (by simp) ?_ ?_ ?_
      · rintro _ _ ⟨q',_,_,rfl,_⟩
        exact ⟨by simp,by simp,.inl rfl,fun i hi=>by obtain rfl:i=0:=(by omega);simp [chH,stepOk,rdH]⟩
      · intro i hi;obtain rfl:i=0:=(by omega);simp only [go_sem]
      rintro _ _ ⟨q3,q4,q5,rfl,e,he1,he2,rfl⟩
      have hte:=text_le (e:=e)
      simp only [go_sem,rdH]
      refine callR (c148 e.a e.p) rfl rfl ?_
      simp only [go_sem]
      clear hx hxl
      generalize e.text=w at *
      refine pureG (by omega) ?_
      simp only [go_sem]
      have hwl:(w++[59]).length=w.length+1:=by simp
      with_reducible repeat' (first|rw [i64w (by omega)];try simp only [go_sem,hwl]|refine br ?_ ?_<;>intro h e<;>(try simp only [e,go_sem,hwl])<;>clear e|refine sd ?_<;>try simp only [go_sem,hwl]|fail)
      · exact ⟨(s++64 :: (w++[59]),n - 1,q3),by simp only;omega,⟨by simp only;omega,by simp only;omega,by simp only [List.length_append,List.length_cons,List.length_nil];omega⟩,(leQ [])⟩
      · exact ⟨(s,n - 1,q3),by simp only;omega,⟨by simp only;omega,by simp only;omega,h3⟩,(leQ [])⟩
    · exact ⟨(s++x,n - 1,q'+1),by simp only;omega,⟨by simp only;omega,by simp only;omega,by simp;omega⟩,(leQ [])⟩
    · exact ⟨(s,n - 1,q'+1),by simp only;omega,⟨by simp only;omega,by simp only;omega,h3⟩,(leQ [])⟩
  · exact retN (.str s) [rdH code q] [] (by simp only [go_sem]) ⟨q,by omega,by omega,rfl,s,h3,rfl⟩ (by simp only [go_sem,rdH]) (by simp [argH,getN,rdH]) (by simp only [go_sem,rdH])

def bits6:List B:=[[97],[98,99],[64],[120,49],[64,49,58,122],[59]]
theorem bits6_le:∀ x∈bits6,x.length≤4:=by decide
def ic118:IC:=sR [oP 4 (.mv (.c s0))] (sR [oP 5 (.mv (.c s0))] (.seq (sR [mV 8 0,oP 9 (.call 32 [.t 8,.c (.int .i64 5)]),oP 10 (.bin .add (.c (.int .i64 1)) (.t 9)),mV 6 10] (.block 0 (.loop (.seq (sR [mV 11 6,oP 12 (.bin .gtr (.t 11) (.c i0))] (.cond (.t 12) .skip (.exit 0))) (.seq (.block 1 (sR [mV 15 0,oP 16 (.bsl 9 1 [.c (.str [97]),.c (.str [98,99]),.c (.str [64]),.c (.str [120,49]),.c (.str [64,49,58,122]),.c (.str [59])]),oP 17 (.call 147 [.t 15,.t 16]),mV 7 17] (.seq (sR [mV 18 0,oP 19 (.call 32 [.t 18,.c (.int .i64 5)])] (.block 2 (.seq (sR [oP 21 (.bin .eql (.t 19) (.c i0)),mV 20 21] (.cond (.t 20) .skip (.reg [oP 22 (.bin .eql (.t 19) (.c (.int .i64 1))),mV 20 22]))) (.cond (.t 20) (.reg [mV 23 0,oP 24 (.call 32 [.t 23,.c (.int .i64 3)]),oP 25 (.bin .add (.c (.int .i64 1)) (.t 24)),mV 26 0,oP 27 (.call 32 [.t 26,.c (.int .i64 4)]),oP 28 (.bin .add (.c (.int .i64 1)) (.t 27)),oP 29 (.build [i0,i0] [(0,(1,.t 25)),(1,(1,.t 28))]),oP 30 (.call 148 [.t 29]),oP 31 (.bin .add (.c (.str [64])) (.t 30)),oP 32 (.bin .add (.t 31) (.c (.str [59]))),mV 7 32]) (sR [oP 34 (.bin .eql (.t 19) (.c (.int .i64 2))),mV 33 34] (.cond (.t 33) (.reg [mV 35 0,oP 36 (.call 32 [.t 35,.c (.int .i64 3)]),oP 37 (.bin .add (.c (.int .i64 4)) (.t 36)),mV 38 0,oP 39 (.call 32 [.t 38,.c (.int .i64 4)]),oP 40 (.bin .add (.c (.int .i64 1)) (.t 39)),oP 41 (.build [i0,i0] [(0,(1,.t 37)),(1,(1,.t 40))]),oP 42 (.call 148 [.t 41]),oP 43 (.bin .add (.c (.str [64])) (.t 42)),oP 44 (.bin .add (.t 43) (.c (.str [59]))),mV 7 44]) (sR [oP 46 (.bin .eql (.t 19) (.c (.int .i64 3))),mV 45 46] (.cond (.t 45) (sR [mV 47 1] (.cond (.t 47) (.reg [mV 48 0,oP 49 (.call 32 [.t 48,.c (.int .i64 4)]),oP 50 (.bin .add (.c (.int .i64 10)) (.t 49)),oP 51 (.build [i0,i0] [(0,(1,.c (.int .i64 9))),(1,(1,.t 50))]),oP 52 (.call 148 [.t 51]),oP 53 (.bin .add (.c (.str [64])) (.t 52)),oP 54 (.bin .add (.t 53) (.c (.str [59]))),mV 7 54]) .skip)) .skip)))))))) (sR [mV 55 5,oP 56 (.lens (.t 55)),mV 57 7,oP 58 (.lens (.t 57)),bN 59 .add 56 58,oP 60 (.bin .lss (.t 59) (.c (.int .i64 24)))] (.cond (.t 60) (.reg [mV 61 5,mV 62 7,bN 63 .add 61 62,mV 5 63]) .skip))))) (.reg [mV 13 6,oP 14 (.bin .sub (.t 13) (.c (.int .i64 1))),mV 6 14])))))) (.seq (sR [mV 64 5,oP 65 (.call 154 [.t 64]),oP 66 (.bin .gtr (.t 65) (.c i0))] (.cond (.t 66) (.reg [mV 67 5,oP 68 (.bin .add (.t 67) (.c (.str [122]))),mV 5 68]) .skip)) (sR [mV 69 5,mV 4 69] .ret))))
theorem dg118:Dg Tryz.prog 118 Tryz.f118 ic118 [(.t 4)]:=⟨Tryz.func118,by kernel_rfl,by kernel_rfl⟩
theorem c118 (code:B) (p:Int) (d:Bool) (hc:code.length≤2000) (hp:0≤p∧p≤600000000):FnP Tryz.prog G 118 1 [rdH code p] [.pv 0 0,.bool d] (rdQ code p 21 (strQ 24)):=by
  refine mP dg118 Tryz.ntmps118 ⟨_,_,p,by omega,by omega,rfl,[],by simp,rfl⟩ ?_
  simp only [ic118,go_sem,rdH]
  refine pkN code p 5 9 hc fun k k1 k2=>?_
  simp only [go_sem,rdH]
  have k2:=k2 (by omega)
  with_reducible repeat' (first|rw [i64w (by omega)];try simp only [go_sem]|refine br ?_ ?_<;>intro h e<;>(try simp only [e,go_sem])<;>clear e|refine sd ?_<;>try simp only [go_sem]|fail)
  refine loopN (fun a:B × Int × Int=>⟨getL [(0,.pv 0 0),(1,.bool d),(5,.str a.1),(6,.int .i64 a.2.1)],getH [(0,.var 104 [.sl 1 (code.map byR),.int .i64 a.2.2])]⟩) (fun a=>a.2.1.toNat) (fun a=>(0≤a.2.1∧a.2.1≤5)∧(p≤a.2.2∧a.2.2≤p+1+4 * (5 - a.2.1))∧a.1.length≤23) ([],1+k,p+1) (leQ []) (by simp;omega) ?_
  intro ⟨s,n,q⟩ ⟨h1,h2,h3⟩
  simp only at h1 h2 h3
  simp only [go_sem]
  with_reducible repeat' (first|rw [i64w (by omega)];try simp only [go_sem]|refine br ?_ ?_<;>intro h e<;>(try simp only [e,go_sem])<;>clear e|refine sd ?_<;>try simp only [go_sem]|fail)
  · refine callN (c147 code q bits6 hc (by omega) (by decide)) [0] [1016] true 17 1 (by simp only [go_sem,rdH,bits6,List.mem_singleton];first|done|simp) (by simp only [go_sem,rdH];first|done|simp) (by simp) (by simp) (by simp only [List.mem_singleton];rintro c rfl;exact ⟨rfl,by simp⟩) ?_ ?_ ?_
    · rintro _ _ ⟨q',_,_,rfl,_⟩
      exact ⟨by simp,by simp,.inl rfl,fun i hi=>by obtain rfl:i=0:=(by omega);simp [chH,stepOk,rdH]⟩
    · intro i hi;obtain rfl:i=0:=(by omega);simp only [go_sem]
    rintro _ _ ⟨q',q1,q2,rfl,x,hx,rfl⟩
    have hxl:=bits6_le x hx
    clear hx
    simp only [go_sem,rdH]
    refine pkN code q' 5 19 hc fun j j1 j2=>?_
    simp only [go_sem,rdH]
    have j2:=j2 (by omega)
    cases d
    all_goals
      with_reducible repeat' (first|rw [i64w (by omega)];try simp only [go_sem]|refine br ?_ ?_<;>intro h e<;>(try simp only [e,go_sem])<;>clear e|refine sd ?_<;>try simp only [go_sem]|fail)
    · have:=0
      refine pkN code (q'+1) 3 24 hc fun a a1 a2=>?_
      simp only [go_sem,rdH]
      have a2:=a2 (by omega)
      with_reducible repeat' (first|rw [i64w (by omega)];try simp only [go_sem]|refine br ?_ ?_<;>intro h e<;>(try simp only [e,go_sem])<;>clear e|refine sd ?_<;>try simp only [go_sem]|fail)
      refine pkN code (q'+1+1) 4 27 hc fun b b1 b2=>?_
      simp only [go_sem,rdH]
      have b2:=b2 (by omega)
      with_reducible repeat' (first|rw [i64w (by omega)];try simp only [go_sem]|refine br ?_ ?_<;>intro h e<;>(try simp only [e,go_sem])<;>clear e|refine sd ?_<;>try simp only [go_sem]|fail)
      refine callR (c148 (1+a) (1+b)) rfl rfl ?_
      simp only [go_sem]
      have hte:=text_le (e:=⟨1+a,1+b⟩)
      generalize E.text ⟨1+a,1+b⟩=w at *
      refine pureG (by omega) ?_
      simp only [go_sem]
      have hwl:(w++[59]).length=w.length+1:=by simp
      with_reducible repeat' (first|rw [i64w (by omega)];try simp only [go_sem,hwl]|refine br ?_ ?_<;>intro h e<;>(try simp only [e,go_sem,hwl])<;>clear e|refine sd ?_<;>try simp only [go_sem,hwl]|fail)
      · exact ⟨(s++64 :: (w++[59]),n - 1,q'+1+1+1),by simp only;omega,⟨by simp only;omega,by simp only;omega,by simp only [List.length_append,List.length_cons,List.length_nil];omega⟩,(leQ [])⟩
      · exact ⟨(s,n - 1,q'+1+1+1),by simp only;omega,⟨by simp only;omega,by simp only;omega,h3⟩,(leQ [])⟩
    · have:=0
      refine pkN code (q'+1) 3 24 hc fun a a1 a2=>?_
      simp only [go_sem,rdH]
      have a2:=a2 (by omega)
      with_reducible repeat' (first|rw [i64w (by omega)];try simp only [go_sem]|refine br ?_ ?_<;>intro h e<;>(try simp only [e,go_sem])<;>clear e|refine sd ?_<;>try simp only [go_sem]|fail)
      refine pkN code (q'+1+1) 4 27 hc fun b b1 b2=>?_
      simp only [go_sem,rdH]
      have b2:=b2 (by omega)
      with_reducible repeat' (first|rw [i64w (by omega)];try simp only [go_sem]|refine br ?_ ?_<;>intro h e<;>(try simp only [e,go_sem])<;>clear e|refine sd ?_<;>try simp only [go_sem]|fail)
      refine callR (c148 (1+a) (1+b)) rfl rfl ?_
      simp only [go_sem]
      have hte:=text_le (e:=⟨1+a,1+b⟩)
      generalize E.text ⟨1+a,1+b⟩=w at *
      refine pureG (by omega) ?_
      simp only [go_sem]
      have hwl:(w++[59]).length=w.length+1:=by simp
      with_reducible repeat' (first|rw [i64w (by omega)];try simp only [go_sem,hwl]|refine br ?_ ?_<;>intro h e<;>(try simp only [e,go_sem,hwl])<;>clear e|refine sd ?_<;>try simp only [go_sem,hwl]|fail)
      · exact ⟨(s++64 :: (w++[59]),n - 1,q'+1+1+1),by simp only;omega,⟨by simp only;omega,by simp only;omega,by simp only [List.length_append,List.length_cons,List.length_nil];omega⟩,(leQ [])⟩
      · exact ⟨(s,n - 1,q'+1+1+1),by simp only;omega,⟨by simp only;omega,by simp only;omega,h3⟩,(leQ [])⟩
    · have:=0
      refine pkN code (q'+1) 3 36 hc fun a a1 a2=>?_
      simp only [go_sem,rdH]
      have a2:=a2 (by omega)
      with_reducible repeat' (first|rw [i64w (by omega)];try simp only [go_sem]|refine br ?_ ?_<;>intro h e<;>(try simp only [e,go_sem])<;>clear e|refine sd ?_<;>try simp only [go_sem]|fail)
      refine pkN code (q'+1+1) 4 39 hc fun b b1 b2=>?_
      simp only [go_sem,rdH]
      have b2:=b2 (by omega)
      with_reducible repeat' (first|rw [i64w (by omega)];try simp only [go_sem]|refine br ?_ ?_<;>intro h e<;>(try simp only [e,go_sem])<;>clear e|refine sd ?_<;>try simp only [go_sem]|fail)
      refine callR (c148 (4+a) (1+b)) rfl rfl ?_
      simp only [go_sem]
      have hte:=text_le (e:=⟨4+a,1+b⟩)
      generalize E.text ⟨4+a,1+b⟩=w at *
      refine pureG (by omega) ?_
      simp only [go_sem]
      have hwl:(w++[59]).length=w.length+1:=by simp
      with_reducible repeat' (first|rw [i64w (by omega)];try simp only [go_sem,hwl]|refine br ?_ ?_<;>intro h e<;>(try simp only [e,go_sem,hwl])<;>clear e|refine sd ?_<;>try simp only [go_sem,hwl]|fail)
      · exact ⟨(s++64 :: (w++[59]),n - 1,q'+1+1+1),by simp only;omega,⟨by simp only;omega,by simp only;omega,by simp only [List.length_append,List.length_cons,List.length_nil];omega⟩,(leQ [])⟩
      · exact ⟨(s,n - 1,q'+1+1+1),by simp only;omega,⟨by simp only;omega,by simp only;omega,h3⟩,(leQ [])⟩
    · exact ⟨(s++x,n - 1,q'+1),by simp only;omega,⟨by simp only;omega,by simp only;omega,by simp only [List.length_append,List.length_cons,List.length_nil];omega⟩,(leQ [])⟩
    · exact ⟨(s,n - 1,q'+1),by simp only;omega,⟨by simp only;omega,by simp only;omega,h3⟩,(leQ [])⟩
    · exact ⟨(s++x,n - 1,q'+1),by simp only;omega,⟨by simp only;omega,by simp only;omega,by simp only [List.length_append,List.length_cons,List.length_nil];omega⟩,(leQ [])⟩
    · exact ⟨(s,n - 1,q'+1),by simp only;omega,⟨by simp only;omega,by simp only;omega,h3⟩,(leQ [])⟩
    · have:=0
      refine pkN code (q'+1) 3 24 hc fun a a1 a2=>?_
      simp only [go_sem,rdH]
      have a2:=a2 (by omega)
      with_reducible repeat' (first|rw [i64w (by omega)];try simp only [go_sem]|refine br ?_ ?_<;>intro h e<;>(try simp only [e,go_sem])<;>clear e|refine sd ?_<;>try simp only [go_sem]|fail)
      refine pkN code (q'+1+1) 4 27 hc fun b b1 b2=>?_
      simp only [go_sem,rdH]
      have b2:=b2 (by omega)
      with_reducible repeat' (first|rw [i64w (by omega)];try simp only [go_sem]|refine br ?_ ?_<;>intro h e<;>(try simp only [e,go_sem])<;>clear e|refine sd ?_<;>try simp only [go_sem]|fail)
      refine callR (c148 (1+a) (1+b)) rfl rfl ?_
      simp only [go_sem]
      have hte:=text_le (e:=⟨1+a,1+b⟩)
      generalize E.text ⟨1+a,1+b⟩=w at *
      refine pureG (by omega) ?_
      simp only [go_sem]
      have hwl:(w++[59]).length=w.length+1:=by simp
      with_reducible repeat' (first|rw [i64w (by omega)];try simp only [go_sem,hwl]|refine br ?_ ?_<;>intro h e<;>(try simp only [e,go_sem,hwl])<;>clear e|refine sd ?_<;>try simp only [go_sem,hwl]|fail)
      · exact ⟨(s++64 :: (w++[59]),n - 1,q'+1+1+1),by simp only;omega,⟨by simp only;omega,by simp only;omega,by simp only [List.length_append,List.length_cons,List.length_nil];omega⟩,(leQ [])⟩
      · exact ⟨(s,n - 1,q'+1+1+1),by simp only;omega,⟨by simp only;omega,by simp only;omega,h3⟩,(leQ [])⟩
    · have:=0
      refine pkN code (q'+1) 3 24 hc fun a a1 a2=>?_
      simp only [go_sem,rdH]
      have a2:=a2 (by omega)
      with_reducible repeat' (first|rw [i64w (by omega)];try simp only [go_sem]|refine br ?_ ?_<;>intro h e<;>(try simp only [e,go_sem])<;>clear e|refine sd ?_<;>try simp only [go_sem]|fail)
      refine pkN code (q'+1+1) 4 27 hc fun b b1 b2=>?_
      simp only [go_sem,rdH]
      have b2:=b2 (by omega)
      with_reducible repeat' (first|rw [i64w (by omega)];try simp only [go_sem]|refine br ?_ ?_<;>intro h e<;>(try simp only [e,go_sem])<;>clear e|refine sd ?_<;>try simp only [go_sem]|fail)
      refine callR (c148 (1+a) (1+b)) rfl rfl ?_
      simp only [go_sem]
      have hte:=text_le (e:=⟨1+a,1+b⟩)
      generalize E.text ⟨1+a,1+b⟩=w at *
      refine pureG (by omega) ?_
      simp only [go_sem]
      have hwl:(w++[59]).length=w.length+1:=by simp
      with_reducible repeat' (first|rw [i64w (by omega)];try simp only [go_sem,hwl]|refine br ?_ ?_<;>intro h e<;>(try simp only [e,go_sem,hwl])<;>clear e|refine sd ?_<;>try simp only [go_sem,hwl]|fail)
      · exact ⟨(s++64 :: (w++[59]),n - 1,q'+1+1+1),by simp only;omega,⟨by simp only;omega,by simp only;omega,by simp only [List.length_append,List.length_cons,List.length_nil];omega⟩,(leQ [])⟩
      · exact ⟨(s,n - 1,q'+1+1+1),by simp only;omega,⟨by simp only;omega,by simp only;omega,h3⟩,(leQ [])⟩
    · have:=0
      refine pkN code (q'+1) 3 36 hc fun a a1 a2=>?_
      simp only [go_sem,rdH]
      have a2:=a2 (by omega)
      with_reducible repeat' (first|rw [i64w (by omega)];try simp only [go_sem]|refine br ?_ ?_<;>intro h e<;>(try simp only [e,go_sem])<;>clear e|refine sd ?_<;>try simp only [go_sem]|fail)
      refine pkN code (q'+1+1) 4 39 hc fun b b1 b2=>?_
      simp only [go_sem,rdH]
      have b2:=b2 (by omega)
      with_reducible repeat' (first|rw [i64w (by omega)];try simp only [go_sem]|refine br ?_ ?_<;>intro h e<;>(try simp only [e,go_sem])<;>clear e|refine sd ?_<;>try simp only [go_sem]|fail)
      refine callR (c148 (4+a) (1+b)) rfl rfl ?_
      simp only [go_sem]
      have hte:=text_le (e:=⟨4+a,1+b⟩)
      generalize E.text ⟨4+a,1+b⟩=w at *
      refine pureG (by omega) ?_
      simp only [go_sem]
      have hwl:(w++[59]).length=w.length+1:=by simp
      with_reducible repeat' (first|rw [i64w (by omega)];try simp only [go_sem,hwl]|refine br ?_ ?_<;>intro h e<;>(try simp only [e,go_sem,hwl])<;>clear e|refine sd ?_<;>try simp only [go_sem,hwl]|fail)
      · exact ⟨(s++64 :: (w++[59]),n - 1,q'+1+1+1),by simp only;omega,⟨by simp only;omega,by simp only;omega,by simp only [List.length_append,List.length_cons,List.length_nil];omega⟩,(leQ [])⟩
      · exact ⟨(s,n - 1,q'+1+1+1),by simp only;omega,⟨by simp only;omega,by simp only;omega,h3⟩,(leQ [])⟩
    · have:=0
      refine pkN code (q'+1) 4 49 hc fun a a1 a2=>?_
      simp only [go_sem,rdH]
      have a2:=a2 (by omega)
      with_reducible repeat' (first|rw [i64w (by omega)];try simp only [go_sem]|refine br ?_ ?_<;>intro h e<;>(try simp only [e,go_sem])<;>clear e|refine sd ?_<;>try simp only [go_sem]|fail)
      refine callR (c148 9 (10+a)) rfl rfl ?_
      simp only [go_sem]
      have hte:=text_le (e:=⟨9,10+a⟩)
      generalize E.text ⟨9,10+a⟩=w at *
      refine pureG (by omega) ?_
      simp only [go_sem]
      have hwl:(w++[59]).length=w.length+1:=by simp
      with_reducible repeat' (first|rw [i64w (by omega)];try simp only [go_sem,hwl]|refine br ?_ ?_<;>intro h e<;>(try simp only [e,go_sem,hwl])<;>clear e|refine sd ?_<;>try simp only [go_sem,hwl]|fail)
      · exact ⟨(s++64 :: (w++[59]),n - 1,q'+1+1),by simp only;omega,⟨by simp only;omega,by simp only;omega,by simp only [List.length_append,List.length_cons,List.length_nil];omega⟩,(leQ [])⟩
      · exact ⟨(s,n - 1,q'+1+1),by simp only;omega,⟨by simp only;omega,by simp only;omega,h3⟩,(leQ [])⟩
    · exact ⟨(s++x,n - 1,q'+1),by simp only;omega,⟨by simp only;omega,by simp only;omega,by simp only [List.length_append,List.length_cons,List.length_nil];omega⟩,(leQ [])⟩
    · exact ⟨(s,n - 1,q'+1),by simp only;omega,⟨by simp only;omega,by simp only;omega,h3⟩,(leQ [])⟩
  with_reducible repeat' (first|rw [i64w (by omega)];try simp only [go_sem]|refine br ?_ ?_<;>intro h e<;>(try simp only [e,go_sem])<;>clear e|refine sd ?_<;>try simp only [go_sem]|(first|refine cr (c154 ..) ?_)<;>try simp only [go_sem]|fail)
  · exact retN (.str (s++[122])) [rdH code q] [] (by simp only [go_sem]) ⟨q,by omega,by omega,rfl,_,by simp;omega,rfl⟩ (by simp only [go_sem,rdH]) (by simp [argH,getN,rdH]) (by simp only [go_sem,rdH])
  · exact retN (.str s) [rdH code q] [] (by simp only [go_sem]) ⟨q,by omega,by omega,rfl,s,by omega,rfl⟩ (by simp only [go_sem,rdH]) (by simp [argH,getN,rdH]) (by simp only [go_sem,rdH])
def ic30:IC:=sR [oP 2 (.mv (.c .nilp))] (.seq (sR [mV 3 0,oP 4 (.len (.t 3)),oP 5 (.bin .gtr (.t 4) (.c (.int .i64 2000)))] (.cond (.t 5) (.reg [mV 6 0,oP 7 (.slv 1 (.t 6) none (some (.c (.int .i64 2000)))),mV 0 7]) .skip)) (sR [mV 8 0,oP 9 (.build [.nils,i0] [(0,(1,.t 8))]),oP 10 (.box 104 (.t 9)),mV 2 10] .ret))
theorem dg30:Dg Tryz.prog 30 Tryz.f30 ic30 [(.t 2)]:=⟨Tryz.func30,by kernel_rfl,by kernel_rfl⟩
theorem c30 (code:B) (hc:code.length≤2000000):FnP Tryz.prog G 30 0 [] [.sl 1 (code.map byR)] (fun r o=>r=.pv 0 0∧o=[rdH (code.take 2000) 0]):=by
  refine mP dg30 Tryz.ntmps30 ⟨_,_,rfl,rfl⟩ ?_
  simp only [ic30,go_sem]
  with_reducible repeat' (first|refine br ?_ ?_<;>intro h e<;>(try simp only [e,go_sem])<;>clear e|rw [i64w (by omega)]|refine sd ?_<;>try simp only [go_sem]|fail)
  · refine retN (.pv 0 0) [rdH (code.take 2000) 0] [(0,1010)] (by simp only [go_sem,rdH];first|done|simp) ⟨rfl,rfl⟩ ?_ (by simp [argH,getN,rdH]) (by simp only [go_sem])
    simp only [go_sem,rdH]
  · refine retN (.pv 0 0) [rdH (code.take 2000) 0] [(0,1010)] (by simp only [go_sem,rdH];first|done|simp) ⟨rfl,rfl⟩ ?_ (by simp [argH,getN,rdH]) (by simp only [go_sem])
    have:code.take 2000=code:=List.take_of_length_le (by omega)
    simp only [go_sem,rdH,this]
def CvD (cs:List Conv):Prop:=(1≤cs.length∧cs.length≤2)∧∀ c∈cs,(c.up.length≤24∧c.down.length≤24∧c.out.a≤5)∧(c.upAck=0∧c.downAck=0)
def cvQ (code:B) (p k:Int) (r:V) (o:List Hs):Prop:=∃ (p':Int) (cs:List Conv),(p≤p'∧p'≤p+k)∧CvD cs∧r=.own 1 cs.length∧o=[rdH code p',.arr 41 10 (cs.map Conv.row)]
def ic65:IC:=sR [oP 2 (.mv (.c .nils))] (sR [oP 6 (.bsl 41 10 []),mV 3 6] (.seq (sR [oP 4 (.mv (.c i0))] (.block 0 (.loop (.seq (sR [mV 7 4,mV 8 0,oP 9 (.call 32 [.t 8,.c (.int .i64 2)]),oP 10 (.bin .add (.c (.int .i64 1)) (.t 9)),bN 11 .lss 7 10] (.cond (.t 11) .skip (.exit 0))) (.seq (.block 1 (sR [mV 14 4,oP 15 (.bin .add (.c (.int .i64 1)) (.t 14)),mV 16 0,oP 17 (.call 32 [.t 16,.c (.int .i64 2)]),bN 18 .add 15 17,mV 19 4,oP 20 (.bin .add (.c (.int .i64 1)) (.t 19)),oP 21 (.build [i0,i0] [(0,(1,.t 18)),(1,(1,.t 20))]),mV 22 4,oP 23 (.bin .add (.c (.int .i64 4)) (.t 22)),mV 24 0,oP 25 (.call 32 [.t 24,.c (.int .i64 4)]),oP 26 (.bin .add (.c (.int .i64 1)) (.t 25)),oP 27 (.build [i0,i0] [(0,(1,.t 23)),(1,(1,.t 26))]),mV 28 0,oP 29 (.call 118 [.t 28,.c (.bool false)]),mV 30 0,oP 31 (.call 118 [.t 30,.c (.bool true)]),oP 32 (.build [i0,i0,i0,i0,s0,s0,i0,i0,s0,s0] [(0,(2,.t 21)),(2,(2,.t 27)),(4,(1,.t 29)),(5,(1,.t 31))]),oP 5 (.alloc 41 [i0,i0,i0,i0,s0,s0,i0,i0,s0,s0]),nP (.sto 10 (.t 5) (.t 32))] (.reg [mV 33 3,lA 34 10 5,oP 35 (.bsl 41 10 [.t 34]),oP 36 (.app 41 10 (.t 33) (.t 35)),mV 3 36]))) (.reg [mV 12 4,oP 13 (.bin .add (.t 12) (.c (.int .i64 1))),mV 4 13])))))) (sR [mV 37 3,mV 2 37] .ret)))
theorem dg65:Dg Tryz.prog 65 Tryz.f65 ic65 [(.t 2)]:=⟨Tryz.func65,by kernel_rfl,by kernel_rfl⟩
theorem c65 (code:B) (p:Int) (hc:code.length≤2000) (hp:0≤p∧p≤400000000):FnP Tryz.prog G 65 1 [rdH code p] [.pv 0 0] (cvQ code p 150):=by
  refine mP dg65 Tryz.ntmps65 ⟨_,_,p,[⟨.zero,.zero,[],[],0,0,[],[]⟩],by omega,⟨by simp,by simp [E.zero]⟩,rfl,rfl⟩ ?_
  simp only [ic65,go_sem,rdH]
  refine loopN (fun a:List Conv × Int=>⟨getL [(0,.pv 0 0),(3,.own 1006 a.1.length),(4,.int .i64 (a.1.length:Int))],getH [(0,.var 104 [.sl 1 (code.map byR),.int .i64 a.2]),(1006,.arr 41 10 (a.1.map Conv.row))]⟩) (fun a=>2 - a.1.length)
    (fun a=>a.1.length≤2∧(p≤a.2∧a.2≤p+45 * a.1.length)∧∀ c∈a.1,(c.up.length≤24∧c.down.length≤24∧c.out.a≤5)∧(c.upAck=0∧c.downAck=0)) ([],p) (leQ []) ⟨by simp,by simp,by simp⟩ ?_
  intro ⟨cs,q⟩ ⟨h1,h2,h3⟩
  simp only at h1 h2 h3
  simp only [go_sem]
  refine pkN code q 2 9 hc fun k k1 k2=>?_
  simp only [go_sem,rdH]
  have k2:=k2 (by omega)
  with_reducible repeat' (first|rw [i64w (by omega)];try simp only [go_sem]|refine br ?_ ?_<;>intro h e<;>(try simp only [e,go_sem])<;>clear e|refine sd ?_<;>try simp only [go_sem]|fail)
  · have:=0
    refine pkN code (q+1) 2 17 hc fun a a1 a2=>?_
    simp only [go_sem,rdH]
    have a2:=a2 (by omega)
    with_reducible repeat' (first|rw [i64w (by omega)];try simp only [go_sem]|refine br ?_ ?_<;>intro h e<;>(try simp only [e,go_sem])<;>clear e|refine sd ?_<;>try simp only [go_sem]|fail)
    refine pkN code (q+1+1) 4 25 hc fun b b1 b2=>?_
    simp only [go_sem,rdH]
    have b2:=b2 (by omega)
    with_reducible repeat' (first|rw [i64w (by omega)];try simp only [go_sem]|refine br ?_ ?_<;>intro h e<;>(try simp only [e,go_sem])<;>clear e|refine sd ?_<;>try simp only [go_sem]|fail)
    refine callN (c118 code (q+1+1+1) false hc (by omega)) [0] [] true 29 1 (by simp only [go_sem,rdH];first|done|simp) (by simp only [go_sem,rdH];first|done|simp) (by simp) (by simp) (by simp) ?_ ?_ ?_
    · rintro _ _ ⟨q',_,_,rfl,_⟩
      exact ⟨by simp,by simp,.inl rfl,fun i hi=>by obtain rfl:i=0:=(by omega);simp [chH,stepOk,rdH]⟩
    · intro i hi;obtain rfl:i=0:=(by omega);simp only [go_sem]
    rintro _ _ ⟨q1,q11,q12,rfl,s,hs,rfl⟩
    simp only [go_sem,rdH]
    with_reducible repeat' (first|rw [i64w (by omega)];try simp only [go_sem]|refine br ?_ ?_<;>intro h e<;>(try simp only [e,go_sem])<;>clear e|refine sd ?_<;>try simp only [go_sem]|fail)
    refine callN (c118 code q1 true hc (by omega)) [0] [] true 31 1 (by simp only [go_sem,rdH];first|done|simp) (by simp only [go_sem,rdH];first|done|simp) (by simp) (by simp) (by simp) ?_ ?_ ?_
    · rintro _ _ ⟨q',_,_,rfl,_⟩
      exact ⟨by simp,by simp,.inl rfl,fun i hi=>by obtain rfl:i=0:=(by omega);simp [chH,stepOk,rdH]⟩
    · intro i hi;obtain rfl:i=0:=(by omega);simp only [go_sem]
    rintro _ _ ⟨q2,q21,q22,rfl,t,ht,rfl⟩
    simp only [go_sem,rdH]
    with_reducible repeat' (first|rw [i64w (by omega)];try simp only [go_sem]|refine br ?_ ?_<;>intro h e<;>(try simp only [e,go_sem])<;>clear e|refine sd ?_<;>try simp only [go_sem]|fail)
    refine ⟨(cs++[⟨⟨1+cs.length+a,1+cs.length⟩,⟨4+cs.length,1+b⟩,s,t,0,0,[],[]⟩],q2),by simp only [List.length_append,List.length_cons,List.length_nil];omega,⟨by simp only [List.length_append,List.length_cons,List.length_nil];omega,by simp only [List.length_append,List.length_cons,List.length_nil];omega, ?_⟩,leN [(1006,1036)] ?_ ?_ (by simp [getN]) (by simp only [go_sem])⟩
    · intro c hc
      rcases List.mem_append.1 hc with hc|hc
      · exact h3 c hc
      · simp only [List.mem_singleton] at hc
        subst hc
        exact ⟨⟨hs,ht,by simp only;omega⟩,rfl,rfl⟩
    · simp only [go_sem];simp
    · simp only [go_sem];simp [Conv.row]
  · refine retN (.own 1 cs.length) [rdH code (q+1),.arr 41 10 (cs.map Conv.row)] [(1,1006)] (by simp only [go_sem]) ⟨q+1,cs,by omega,⟨by omega,h3⟩,rfl,rfl⟩ ?_ (by simp [argH,getN,rdH]) (by simp only [go_sem,rdH])
    simp only [go_sem,rdH]
def evQ (r:V):Prop:=∃ e:Ev,e.pkt.text.length≤50∧r=.agg (Ev.row e)
def evA (code:B) (p:Int) (w:M.World) (r:V) (o:List Hs):Prop:=∃ p':Int,(p≤p'∧p'≤p+60)∧o=[rdH code p',.arr 41 10 (w.convs.map Conv.row),.arr 64 3 (w.door.map.map Pair.row),.arr 46 8 (w.door.flows.map Flw.row),.arr 54 7 (w.nets.map Pk.row)]∧evQ r
def ints6:List Int:=[1,3,5,8,24,24]
theorem ints6_e:[[V.int .i64 1],[V.int .i64 3],[V.int .i64 5],[V.int .i64 8],[V.int .i64 24],[V.int .i64 24]]=ints6.map (fun x=>[V.int .i64 x]):=rfl
theorem ints6_l:ints6.length=6:=rfl
theorem lt6 {c:Int} (h:0≤c) (h2:c<6):c.toNat<ints6.length:=by simp only [ints6,List.length_cons,List.length_nil];omega
theorem div5 {c:Int} (h:0≤c) (h2:c<6):0≤c.tdiv 5∧c.tdiv 5≤1:=by
  obtain ⟨n,rfl⟩:=Int.eq_ofNat_of_zero_le h
  rw [show (n:Int).tdiv 5=((n / 5:Nat):Int) from (Int.ofNat_tdiv n 5).symm]
  omega
theorem finE (code:B) (p:Int) (w:M.World) {l mm} (q:Int) (e:Ev) (h1:p≤q∧q≤p+60:=by omega) (h2:e.pkt.text.length≤50:=by (simp [Pk.zero];try omega)) (h3:getL l 4=.pv 1004 0:=by simp only [go_sem])
    (h4:getH mm 1004=.var 56 (Ev.row e):=by simp only [go_sem,Pk.zero,E.zero]) (h5:getH mm 0=.var 104 [.sl 1 (code.map byR),.int .i64 q]:=by simp only [go_sem])
    (h6:getH mm 1=.arr 41 10 (w.convs.map Conv.row):=by simp only [go_sem]) (h7:getH mm 2=.arr 64 3 (w.door.map.map Pair.row):=by simp only [go_sem]) (h8:getH mm 3=.arr 46 8 (w.door.flows.map Flw.row):=by simp only [go_sem])
    (h9:getH mm 4=.arr 54 7 (w.nets.map Pk.row):=by simp only [go_sem]):retQ [.cell 4 11 true] 5 (evA code p w) .ret ⟨getL l,getH mm⟩:=by
  refine retN (.agg (Ev.row e)) [rdH code q,.arr 41 10 (w.convs.map Conv.row),.arr 64 3 (w.door.map.map Pair.row),.arr 46 8 (w.door.flows.map Flw.row),.arr 54 7 (w.nets.map Pk.row)] [] ?_ ⟨q,h1,rfl,e,h2,rfl⟩ ?_ (by simp [argH,getN,rdH]) (by simp only [go_sem,rdH])
  · simp only [go_sem,h3,h4]
  · simp only [go_sem,h5,h6,h7,h8,h9,rdH]
def ic49:IC:=sR [oP 3 (.box 33 (.t 1)),oP 4 (.alloc 56 [i0,i0,i0,i0,i0,i0,i0,i0,i0,i0,s0])] (sR [fD 8 3 3,lD 9 1 8,oP 10 (.len (.t 9)),mV 5 10] (.seq (sR [mV 11 5,oP 12 (.bin .gtr (.t 11) (.c i0)),mV 13 12,⟨some 14,some (13,true),.mv (.t 0)⟩,⟨some 15,some (13,true),.call 32 [.t 14,.c (.int .i64 7)]⟩,⟨some 16,some (13,true),.bin .lss (.t 15) (.c (.int .i64 4))⟩,oP 17 (.pick (.t 13) (.t 16) (.c (.bool false)))] (.cond (.t 17) (sR [mV 18 0,mV 19 5,oP 20 (.call 32 [.t 18,.t 19]),oP 21 (.build [i0,i0,i0,i0,i0,i0,i0,i0,i0,i0,s0] [(0,(1,.c (.int .i64 3))),(1,(1,.t 20))]),nP (.sto 11 (.t 4) (.t 21))] .ret) .skip)) (sR [mV 22 0,fD 23 0 3,lD 24 1 23,oP 25 (.len (.t 24)),oP 26 (.bin .add (.t 25) (.c (.int .i64 1))),oP 27 (.call 32 [.t 22,.t 26]),oP 28 (.build [i0,i0,i0,i0,i0,i0,i0,i0,i0,i0,s0] [(0,(1,.c (.int .i64 1))),(1,(1,.t 27))]),oP 6 (.alloc 56 [i0,i0,i0,i0,i0,i0,i0,i0,i0,i0,s0]),nP (.sto 11 (.t 6) (.t 28))] (.seq (sR [fD 29 1 6,lD 30 1 29,fD 31 0 3,lD 32 1 31,oP 33 (.len (.t 32)),bN 34 .eql 30 33] (.cond (.t 34) (.reg [fD 35 1 6,nP (.sto 1 (.t 35) (.c i0))]) .skip)) (.seq (sR [mV 36 0,oP 37 (.call 32 [.t 36,.c (.int .i64 10)])] (.block 0 (.seq (sR [oP 62 (.bin .eql (.t 37) (.c i0)),mV 61 62] (.cond (.t 61) .skip (sR [oP 63 (.bin .eql (.t 37) (.c (.int .i64 1))),mV 61 63] (.cond (.t 61) .skip (sR [oP 64 (.bin .eql (.t 37) (.c (.int .i64 2))),mV 61 64] (.cond (.t 61) .skip (.reg [oP 65 (.bin .eql (.t 37) (.c (.int .i64 3))),mV 61 65]))))))) (.cond (.t 61) (.seq (.drw [0,1,0,4,15,31,63,0,128,384,896,2047,4095,8191,16383] [(0,fD 66 0 3),(1,lD 67 1 66),(2,fD 68 1 6),(3,lD 69 1 68),(4,oP 70 (.iad 10 (.t 67) (.t 69))),(5,fD 71 6 70),(6,lD 72 1 71),(7,mV 73 0),(8,oP 74 (.call 32 [.t 73,.c (.int .i64 6)])),(9,oP 75 (.bin .quo (.t 74) (.c (.int .i64 5)))),(10,oP 76 (.bin .mul (.t 75) (.c (.int .i64 3)))),(11,bN 77 .sub 72 76),(12,oP 78 (.mx (.t 77) (.c i0))),(13,fD 79 2 6),(14,nP (.sto 1 (.t 79) (.t 78)))]) (.reg [oP 80 (.bsl 3 1 [.c (.int .i64 1),.c (.int .i64 3),.c (.int .i64 5),.c (.int .i64 8),.c (.int .i64 24),.c (.int .i64 24)]),mV 81 0,oP 82 (.call 32 [.t 81,.c (.int .i64 6)]),oP 83 (.iad 1 (.t 80) (.t 82)),lD 84 1 83,fD 85 3 6,nP (.sto 1 (.t 85) (.t 84))])) (.seq (sR [oP 87 (.bin .eql (.t 37) (.c (.int .i64 4))),mV 86 87] (.cond (.t 86) .skip (sR [oP 88 (.bin .eql (.t 37) (.c (.int .i64 5))),mV 86 88] (.cond (.t 86) .skip (.reg [oP 89 (.bin .eql (.t 37) (.c (.int .i64 6))),mV 86 89]))))) (.cond (.t 86) (sR [fD 90 0 6,nP (.sto 1 (.t 90) (.c (.int .i64 2)))] (.seq (.drw [0,1,0,4,15,31,63,0,128,384,896,2047,4095,8191,16383] [(0,fD 91 0 3),(1,lD 92 1 91),(2,fD 93 1 6),(3,lD 94 1 93),(4,oP 95 (.iad 10 (.t 92) (.t 94))),(5,fD 96 7 95),(6,lD 97 1 96),(7,mV 98 0),(8,oP 99 (.call 32 [.t 98,.c (.int .i64 6)])),(9,oP 100 (.bin .quo (.t 99) (.c (.int .i64 5)))),(10,oP 101 (.bin .mul (.t 100) (.c (.int .i64 3)))),(11,bN 102 .sub 97 101),(12,oP 103 (.mx (.t 102) (.c i0))),(13,fD 104 2 6),(14,nP (.sto 1 (.t 104) (.t 103)))]) (.reg [oP 105 (.bsl 3 1 [.c (.int .i64 1),.c (.int .i64 3),.c (.int .i64 5),.c (.int .i64 8),.c (.int .i64 24),.c (.int .i64 24)]),mV 106 0,oP 107 (.call 32 [.t 106,.c (.int .i64 6)]),oP 108 (.iad 1 (.t 105) (.t 107)),lD 109 1 108,fD 110 3 6,nP (.sto 1 (.t 110) (.t 109))]))) (sR [oP 112 (.bin .eql (.t 37) (.c (.int .i64 7))),mV 111 112] (.cond (.t 111) (sR [mV 113 0,mV 114 5,oP 115 (.bin .add (.t 114) (.c (.int .i64 1))),oP 116 (.call 32 [.t 113,.t 115]),oP 117 (.build [i0,i0,i0,i0,i0,i0,i0,i0,i0,i0,s0] [(0,(1,.c (.int .i64 4))),(1,(1,.t 116))]),nP (.sto 11 (.t 4) (.t 117))] .ret) (sR [oP 119 (.bin .eql (.t 37) (.c (.int .i64 8))),mV 118 119] (.cond (.t 118) (sR [mV 120 0,mV 121 5,oP 122 (.bin .add (.t 121) (.c (.int .i64 1))),oP 123 (.call 32 [.t 120,.t 122]),oP 124 (.build [i0,i0,i0,i0,i0,i0,i0,i0,i0,i0,s0] [(0,(1,.c (.int .i64 5))),(1,(1,.t 123))]),nP (.sto 11 (.t 4) (.t 124))] .ret) (sR [mV 38 0,oP 39 (.call 32 [.t 38,.c (.int .i64 2)]),oP 40 (.bin .add (.c (.int .i64 1)) (.t 39)),mV 41 0,oP 42 (.call 32 [.t 41,.c (.int .i64 9)]),oP 43 (.bin .add (.c (.int .i64 1)) (.t 42)),oP 44 (.build [i0,i0] [(0,(1,.c (.int .i64 6))),(1,(1,.t 43))]),mV 45 0,oP 46 (.call 32 [.t 45,.c (.int .i64 3)]),oP 47 (.bin .add (.c (.int .i64 10)) (.t 46)),oP 48 (.build [i0,i0] [(0,(1,.c (.int .i64 9))),(1,(1,.t 47))]),mV 49 0,oP 50 (.call 32 [.t 49,.c (.int .i64 6)]),oP 51 (.build [i0,i0,i0,i0,i0,i0,s0] [(0,(1,.t 40)),(1,(2,.t 44)),(3,(2,.t 48)),(5,(1,.t 50))]),oP 7 (.alloc 54 [i0,i0,i0,i0,i0,i0,s0]),nP (.sto 7 (.t 7) (.t 51))] (.seq (sR [fD 52 0 7,lD 53 1 52,oP 54 (.bin .eql (.t 53) (.c (.int .i64 1)))] (.cond (.t 54) (.reg [mV 55 0,oP 56 (.call 102 [.t 55,.c (.int .i64 8)]),oP 57 (.bin .add (.t 56) (.c (.str [113]))),fD 58 6 7,nP (.sto 1 (.t 58) (.t 57))]) .skip)) (sR [lA 59 7 7,oP 60 (.build [i0,i0,i0,i0,i0,i0,i0,i0,i0,i0,s0] [(0,(1,.c (.int .i64 6))),(4,(7,.t 59))]),nP (.sto 11 (.t 4) (.t 60))] .ret))))))))))))) (.seq (sR [mV 125 0,oP 126 (.call 32 [.t 125,.c (.int .i64 5)]),oP 127 (.bin .eql (.t 126) (.c i0))] (.cond (.t 127) (.reg [mV 128 0,oP 129 (.call 32 [.t 128,.c (.int .i64 12)]),fD 130 2 6,nP (.sto 1 (.t 130) (.t 129))]) .skip)) (sR [lA 131 11 6,nP (.sto 11 (.t 4) (.t 131))] .ret)))))))
theorem dg49:Dg Tryz.prog 49 Tryz.f49 ic49 [(.cell 4 11 true)]:=⟨Tryz.func49,by kernel_rfl,by kernel_rfl⟩
set_option maxHeartbeats 4000000 in
theorem c49 (code:B) (p:Int) (w:M.World) (hc:code.length≤2000) (hp:0≤p∧p≤300000000) (h1:1≤w.convs.length∧w.convs.length≤1000) (h2:w.nets.length≤1000)
    (h3:∀ c∈w.convs,(0≤c.upAck∧c.upAck≤1000)∧0≤c.downAck∧c.downAck≤1000):FnP Tryz.prog G 49 5 [rdH code p,.arr 41 10 (w.convs.map Conv.row),.arr 64 3 (w.door.map.map Pair.row),.arr 46 8 (w.door.flows.map Flw.row),.arr 54 7 (w.nets.map Pk.row)] [.pv 0 0,.agg [.own 1 w.convs.length,.own 2 w.door.map.length,.own 3 w.door.flows.length,.own 4 w.nets.length]] (evA code p w):=by
  refine mP dg49 Tryz.ntmps49 ⟨_,_,p,by omega,rfl,⟨0,0,0,0,.zero⟩,by simp [Pk.zero],rfl⟩ ?_
  have acks:∀ k:Nat,k<w.convs.length→(0≤(w.convs.getD k default).upAck∧(w.convs.getD k default).upAck≤1000)∧0≤(w.convs.getD k default).downAck∧(w.convs.getD k default).downAck≤1000:=fun k hk=>by
    have:w.convs.getD k default=w.convs[k]:=by simp [List.getD,hk]
    rw [this];exact h3 _ (List.getElem_mem hk)
  clear h3
  simp only [ic49,go_sem,rdH]
  with_reducible repeat' (first|rw [i64w (by omega)];try simp only [go_sem]|refine br ?_ ?_<;>intro h e<;>(try simp only [e,go_sem])<;>clear e|refine sd ?_<;>try simp only [go_sem]|fail)
  · have:=0
    refine pkN code p 7 15 hc fun k k1 k2=>?_
    simp only [go_sem,rdH]
    have k2:=k2 (by omega)
    with_reducible repeat' (first|rw [i64w (by omega)];try simp only [go_sem]|refine br ?_ ?_<;>intro h e<;>(try simp only [e,go_sem])<;>clear e|refine sd ?_<;>try simp only [go_sem]|fail)
    · have:=0
      refine pkN code (p+1) w.nets.length 20 hc fun j j1 j2=>?_
      simp only [go_sem,rdH]
      with_reducible repeat' (first|rw [i64w (by omega)];try simp only [go_sem]|refine br ?_ ?_<;>intro h e<;>(try simp only [e,go_sem])<;>clear e|refine sd ?_<;>try simp only [go_sem]|fail)
      exact finE code p w (p+1+1) ⟨3,j,0,0,.zero⟩
    · obtain ⟨q,hq⟩:∃ q,q=p+1:=⟨_,rfl⟩
      rw [← hq]
      with_reducible repeat' (first|rw [i64w (by omega)];try simp only [go_sem]|refine br ?_ ?_<;>intro h e<;>(try simp only [e,go_sem])<;>clear e|refine sd ?_<;>try simp only [go_sem]|fail)
      refine pkN code q (w.convs.length+1) 27 hc fun a a1 a2=>?_
      simp only [go_sem,rdH]
      have a2:=a2 (by omega)
      with_reducible repeat' (first|rw [i64w (by omega)];try simp only [go_sem]|refine br ?_ ?_<;>intro h e<;>(try simp only [e,go_sem])<;>clear e|refine sd ?_<;>try simp only [go_sem]|fail)
      · have:=0
        refine pkN code (q+1) 10 37 hc fun b b1 b2=>?_
        simp only [go_sem,rdH]
        with_reducible repeat' (first|rw [i64w (by omega)];try simp only [go_sem]|refine br ?_ ?_<;>intro h e<;>(try simp only [e,go_sem])<;>clear e|refine sd ?_<;>try simp only [go_sem]|fail)
        iterate 4
         · have:=0
           have hac:=acks 0 (by omega)
           have hck:0<w.convs.length:=by omega
           try simp only [getD_mp hck,go_sem]
           with_reducible repeat' (first|rw [i64w (by omega)];try simp only [go_sem,getD_mp hck]|refine br ?_ ?_<;>intro h e<;>(try simp only [e,go_sem,getD_mp hck])<;>clear e|refine sd ?_<;>try simp only [go_sem,getD_mp hck]|fail)
           refine pkN code ((q+1)+1) 6 74 hc fun x1 x11 x12=>?_
           simp only [go_sem,rdH]
           have x12:=x12 (by omega)
           have hd5:=div5 x11 x12
           generalize hX:(w.convs.getD 0 default).upAck=X at *
           generalize hY:x1.tdiv 5=Y at *
           have w1:IntKind.i64.wrap Y=Y:=i64w (by omega)
           have w2:IntKind.i64.wrap (Y * 3)=Y * 3:=i64w (by omega)
           have w3:IntKind.i64.wrap (X - Y * 3)=X - Y * 3:=i64w (by omega)
           try simp only [hX,hY,w1,w2,w3,ints6_e,go_sem]
           with_reducible repeat' (first|refine br ?_ ?_<;>intro h e<;>(try simp only [e,go_sem,getD_mp hck,hX,hY,w1,w2,w3,ints6_e])<;>clear e|rw [i64w (by omega)]|refine sd ?_<;>try simp only [go_sem,getD_mp hck,hX,hY,w1,w2,w3,ints6_e]|fail)
           refine pkN code (((q+1)+1)+1) 6 82 hc fun x3 x31 x32=>?_
           simp only [go_sem,rdH]
           have x32:=x32 (by omega)
           have h6:=lt6 x31 x32
           have h6':(x3:Int)<ints6.length:=by omega
           try simp only [getD_mp h6,ints6_e,ints6_l,List.length_map,go_sem]
           with_reducible repeat' (first|refine br ?_ ?_<;>intro h e<;>(try simp only [e,go_sem,getD_mp h6,ints6_e,ints6_l,List.length_map])<;>clear e|rw [i64w (by omega)]|refine sd ?_<;>try simp only [go_sem,getD_mp h6,ints6_e,ints6_l,List.length_map]|fail)
           refine pkN code (((q+1)+1)+1+1) 5 126 hc fun x5 x51 x52=>?_
           simp only [go_sem,rdH]
           have x52:=x52 (by omega)
           with_reducible repeat' (first|rw [i64w (by omega)];try simp only [go_sem]|refine br ?_ ?_<;>intro h e<;>(try simp only [e,go_sem])<;>clear e|refine sd ?_<;>try simp only [go_sem]|fail)
           · have:=0
             refine pkN code ((((q+1)+1)+1+1)+1) 12 129 hc fun x6 x61 x62=>?_
             simp only [go_sem,rdH]
             have x62:=x62 (by omega)
             with_reducible repeat' (first|rw [i64w (by omega)];try simp only [go_sem]|refine br ?_ ?_<;>intro h e<;>(try simp only [e,go_sem])<;>clear e|refine sd ?_<;>try simp only [go_sem]|fail)
             exact finE code p w ((((q+1)+1)+1+1)+1+1) ⟨1,0,x6,(ints6.getD x3.toNat default),.zero⟩
           · exact finE code p w ((((q+1)+1)+1+1)+1) ⟨1,0,(max (X - Y * 3) 0),(ints6.getD x3.toNat default),.zero⟩
        iterate 3
         · have:=0
           have hac:=acks 0 (by omega)
           have hck:0<w.convs.length:=by omega
           try simp only [getD_mp hck,go_sem]
           with_reducible repeat' (first|rw [i64w (by omega)];try simp only [go_sem,getD_mp hck]|refine br ?_ ?_<;>intro h e<;>(try simp only [e,go_sem,getD_mp hck])<;>clear e|refine sd ?_<;>try simp only [go_sem,getD_mp hck]|fail)
           refine pkN code ((q+1)+1) 6 99 hc fun x1 x11 x12=>?_
           simp only [go_sem,rdH]
           have x12:=x12 (by omega)
           have hd5:=div5 x11 x12
           generalize hX:(w.convs.getD 0 default).downAck=X at *
           generalize hY:x1.tdiv 5=Y at *
           have w1:IntKind.i64.wrap Y=Y:=i64w (by omega)
           have w2:IntKind.i64.wrap (Y * 3)=Y * 3:=i64w (by omega)
           have w3:IntKind.i64.wrap (X - Y * 3)=X - Y * 3:=i64w (by omega)
           try simp only [hX,hY,w1,w2,w3,ints6_e,go_sem]
           with_reducible repeat' (first|refine br ?_ ?_<;>intro h e<;>(try simp only [e,go_sem,getD_mp hck,hX,hY,w1,w2,w3,ints6_e])<;>clear e|rw [i64w (by omega)]|refine sd ?_<;>try simp only [go_sem,getD_mp hck,hX,hY,w1,w2,w3,ints6_e]|fail)
           refine pkN code (((q+1)+1)+1) 6 107 hc fun x3 x31 x32=>?_
           simp only [go_sem,rdH]
           have x32:=x32 (by omega)
           have h6:=lt6 x31 x32
           have h6':(x3:Int)<ints6.length:=by omega
           try simp only [getD_mp h6,ints6_e,ints6_l,List.length_map,go_sem]
           with_reducible repeat' (first|refine br ?_ ?_<;>intro h e<;>(try simp only [e,go_sem,getD_mp h6,ints6_e,ints6_l,List.length_map])<;>clear e|rw [i64w (by omega)]|refine sd ?_<;>try simp only [go_sem,getD_mp h6,ints6_e,ints6_l,List.length_map]|fail)
           refine pkN code (((q+1)+1)+1+1) 5 126 hc fun x5 x51 x52=>?_
           simp only [go_sem,rdH]
           have x52:=x52 (by omega)
           with_reducible repeat' (first|rw [i64w (by omega)];try simp only [go_sem]|refine br ?_ ?_<;>intro h e<;>(try simp only [e,go_sem])<;>clear e|refine sd ?_<;>try simp only [go_sem]|fail)
           · have:=0
             refine pkN code ((((q+1)+1)+1+1)+1) 12 129 hc fun x6 x61 x62=>?_
             simp only [go_sem,rdH]
             have x62:=x62 (by omega)
             with_reducible repeat' (first|rw [i64w (by omega)];try simp only [go_sem]|refine br ?_ ?_<;>intro h e<;>(try simp only [e,go_sem])<;>clear e|refine sd ?_<;>try simp only [go_sem]|fail)
             exact finE code p w ((((q+1)+1)+1+1)+1+1) ⟨2,0,x6,(ints6.getD x3.toNat default),.zero⟩
           · exact finE code p w ((((q+1)+1)+1+1)+1) ⟨2,0,(max (X - Y * 3) 0),(ints6.getD x3.toNat default),.zero⟩
        · have:=0
          refine pkN code ((q+1)+1) (w.nets.length+1) 116 hc fun x1 x11 x12=>?_
          simp only [go_sem,rdH]
          with_reducible repeat' (first|rw [i64w (by omega)];try simp only [go_sem]|refine br ?_ ?_<;>intro h e<;>(try simp only [e,go_sem])<;>clear e|refine sd ?_<;>try simp only [go_sem]|fail)
          exact finE code p w (((q+1)+1)+1) ⟨4,x1,0,0,.zero⟩
        · have:=0
          refine pkN code ((q+1)+1) (w.nets.length+1) 123 hc fun x1 x11 x12=>?_
          simp only [go_sem,rdH]
          with_reducible repeat' (first|rw [i64w (by omega)];try simp only [go_sem]|refine br ?_ ?_<;>intro h e<;>(try simp only [e,go_sem])<;>clear e|refine sd ?_<;>try simp only [go_sem]|fail)
          exact finE code p w (((q+1)+1)+1) ⟨5,x1,0,0,.zero⟩
        · have:=0
          refine pkN code ((q+1)+1) 2 39 hc fun x1 x11 x12=>?_
          simp only [go_sem,rdH]
          have x12:=x12 (by omega)
          with_reducible repeat' (first|rw [i64w (by omega)];try simp only [go_sem]|refine br ?_ ?_<;>intro h e<;>(try simp only [e,go_sem])<;>clear e|refine sd ?_<;>try simp only [go_sem]|fail)
          refine pkN code (((q+1)+1)+1) 9 42 hc fun x2 x21 x22=>?_
          simp only [go_sem,rdH]
          have x22:=x22 (by omega)
          with_reducible repeat' (first|rw [i64w (by omega)];try simp only [go_sem]|refine br ?_ ?_<;>intro h e<;>(try simp only [e,go_sem])<;>clear e|refine sd ?_<;>try simp only [go_sem]|fail)
          refine pkN code (((q+1)+1)+1+1) 3 46 hc fun x3 x31 x32=>?_
          simp only [go_sem,rdH]
          have x32:=x32 (by omega)
          with_reducible repeat' (first|rw [i64w (by omega)];try simp only [go_sem]|refine br ?_ ?_<;>intro h e<;>(try simp only [e,go_sem])<;>clear e|refine sd ?_<;>try simp only [go_sem]|fail)
          refine pkN code (((q+1)+1)+1+1+1) 6 50 hc fun x4 x41 x42=>?_
          simp only [go_sem,rdH]
          have x42:=x42 (by omega)
          with_reducible repeat' (first|rw [i64w (by omega)];try simp only [go_sem]|refine br ?_ ?_<;>intro h e<;>(try simp only [e,go_sem])<;>clear e|refine sd ?_<;>try simp only [go_sem]|fail)
          · have:=0
            refine callN (c102 code (((q+1)+1)+1+1+1+1) 8 hc (by omega) (by omega)) [0] [] true 56 1 (by simp only [go_sem,rdH];first|done|simp) (by simp only [go_sem,rdH];first|done|simp) (by simp) (by simp) (by simp) ?_ ?_ ?_
            · rintro _ _ ⟨q',_,_,rfl,_⟩
              exact ⟨by simp,by simp,.inl rfl,fun i hi=>by obtain rfl:i=0:=(by omega);simp [chH,stepOk,rdH]⟩
            · intro i hi;obtain rfl:i=0:=(by omega);simp only [go_sem]
            rintro _ _ ⟨q7,q71,q72,rfl,s,hs,rfl⟩
            simp only [go_sem,rdH]
            with_reducible repeat' (first|rw [i64w (by omega)];try simp only [go_sem]|refine br ?_ ?_<;>intro h e<;>(try simp only [e,go_sem])<;>clear e|refine sd ?_<;>try simp only [go_sem]|fail)
            exact finE code p w q7 ⟨6,0,0,0,⟨1+x1,⟨6,1+x2⟩,⟨9,10+x3⟩,x4,s++[113]⟩⟩
          · exact finE code p w (((q+1)+1)+1+1+1+1) ⟨6,0,0,0,⟨1+x1,⟨6,1+x2⟩,⟨9,10+x3⟩,x4,[]⟩⟩
      · have:=0
        have hal:a.toNat<w.convs.length:=by omega
        refine pkN code (q+1) 10 37 hc fun b b1 b2=>?_
        simp only [go_sem,rdH]
        with_reducible repeat' (first|rw [i64w (by omega)];try simp only [go_sem]|refine br ?_ ?_<;>intro h e<;>(try simp only [e,go_sem])<;>clear e|refine sd ?_<;>try simp only [go_sem]|fail)
        iterate 4
         · have:=0
           have hac:=acks a.toNat (by omega)
           have hck:a.toNat<w.convs.length:=by omega
           try simp only [getD_mp hck,go_sem]
           with_reducible repeat' (first|rw [i64w (by omega)];try simp only [go_sem,getD_mp hck]|refine br ?_ ?_<;>intro h e<;>(try simp only [e,go_sem,getD_mp hck])<;>clear e|refine sd ?_<;>try simp only [go_sem,getD_mp hck]|fail)
           refine pkN code ((q+1)+1) 6 74 hc fun x1 x11 x12=>?_
           simp only [go_sem,rdH]
           have x12:=x12 (by omega)
           have hd5:=div5 x11 x12
           generalize hX:(w.convs.getD a.toNat default).upAck=X at *
           generalize hY:x1.tdiv 5=Y at *
           have w1:IntKind.i64.wrap Y=Y:=i64w (by omega)
           have w2:IntKind.i64.wrap (Y * 3)=Y * 3:=i64w (by omega)
           have w3:IntKind.i64.wrap (X - Y * 3)=X - Y * 3:=i64w (by omega)
           try simp only [hX,hY,w1,w2,w3,ints6_e,go_sem]
           with_reducible repeat' (first|refine br ?_ ?_<;>intro h e<;>(try simp only [e,go_sem,getD_mp hck,hX,hY,w1,w2,w3,ints6_e])<;>clear e|rw [i64w (by omega)]|refine sd ?_<;>try simp only [go_sem,getD_mp hck,hX,hY,w1,w2,w3,ints6_e]|fail)
           refine pkN code (((q+1)+1)+1) 6 82 hc fun x3 x31 x32=>?_
           simp only [go_sem,rdH]
           have x32:=x32 (by omega)
           have h6:=lt6 x31 x32
           have h6':(x3:Int)<ints6.length:=by omega
           try simp only [getD_mp h6,ints6_e,ints6_l,List.length_map,go_sem]
           with_reducible repeat' (first|refine br ?_ ?_<;>intro h e<;>(try simp only [e,go_sem,getD_mp h6,ints6_e,ints6_l,List.length_map])<;>clear e|rw [i64w (by omega)]|refine sd ?_<;>try simp only [go_sem,getD_mp h6,ints6_e,ints6_l,List.length_map]|fail)
           refine pkN code (((q+1)+1)+1+1) 5 126 hc fun x5 x51 x52=>?_
           simp only [go_sem,rdH]
           have x52:=x52 (by omega)
           with_reducible repeat' (first|rw [i64w (by omega)];try simp only [go_sem]|refine br ?_ ?_<;>intro h e<;>(try simp only [e,go_sem])<;>clear e|refine sd ?_<;>try simp only [go_sem]|fail)
           · have:=0
             refine pkN code ((((q+1)+1)+1+1)+1) 12 129 hc fun x6 x61 x62=>?_
             simp only [go_sem,rdH]
             have x62:=x62 (by omega)
             with_reducible repeat' (first|rw [i64w (by omega)];try simp only [go_sem]|refine br ?_ ?_<;>intro h e<;>(try simp only [e,go_sem])<;>clear e|refine sd ?_<;>try simp only [go_sem]|fail)
             exact finE code p w ((((q+1)+1)+1+1)+1+1) ⟨1,a,x6,(ints6.getD x3.toNat default),.zero⟩
           · exact finE code p w ((((q+1)+1)+1+1)+1) ⟨1,a,(max (X - Y * 3) 0),(ints6.getD x3.toNat default),.zero⟩
        iterate 3
         · have:=0
           have hac:=acks a.toNat (by omega)
           have hck:a.toNat<w.convs.length:=by omega
           try simp only [getD_mp hck,go_sem]
           with_reducible repeat' (first|rw [i64w (by omega)];try simp only [go_sem,getD_mp hck]|refine br ?_ ?_<;>intro h e<;>(try simp only [e,go_sem,getD_mp hck])<;>clear e|refine sd ?_<;>try simp only [go_sem,getD_mp hck]|fail)
           refine pkN code ((q+1)+1) 6 99 hc fun x1 x11 x12=>?_
           simp only [go_sem,rdH]
           have x12:=x12 (by omega)
           have hd5:=div5 x11 x12
           generalize hX:(w.convs.getD a.toNat default).downAck=X at *
           generalize hY:x1.tdiv 5=Y at *
           have w1:IntKind.i64.wrap Y=Y:=i64w (by omega)
           have w2:IntKind.i64.wrap (Y * 3)=Y * 3:=i64w (by omega)
           have w3:IntKind.i64.wrap (X - Y * 3)=X - Y * 3:=i64w (by omega)
           try simp only [hX,hY,w1,w2,w3,ints6_e,go_sem]
           with_reducible repeat' (first|refine br ?_ ?_<;>intro h e<;>(try simp only [e,go_sem,getD_mp hck,hX,hY,w1,w2,w3,ints6_e])<;>clear e|rw [i64w (by omega)]|refine sd ?_<;>try simp only [go_sem,getD_mp hck,hX,hY,w1,w2,w3,ints6_e]|fail)
           refine pkN code (((q+1)+1)+1) 6 107 hc fun x3 x31 x32=>?_
           simp only [go_sem,rdH]
           have x32:=x32 (by omega)
           have h6:=lt6 x31 x32
           have h6':(x3:Int)<ints6.length:=by omega
           try simp only [getD_mp h6,ints6_e,ints6_l,List.length_map,go_sem]
           with_reducible repeat' (first|refine br ?_ ?_<;>intro h e<;>(try simp only [e,go_sem,getD_mp h6,ints6_e,ints6_l,List.length_map])<;>clear e|rw [i64w (by omega)]|refine sd ?_<;>try simp only [go_sem,getD_mp h6,ints6_e,ints6_l,List.length_map]|fail)
           refine pkN code (((q+1)+1)+1+1) 5 126 hc fun x5 x51 x52=>?_
           simp only [go_sem,rdH]
           have x52:=x52 (by omega)
           with_reducible repeat' (first|rw [i64w (by omega)];try simp only [go_sem]|refine br ?_ ?_<;>intro h e<;>(try simp only [e,go_sem])<;>clear e|refine sd ?_<;>try simp only [go_sem]|fail)
           · have:=0
             refine pkN code ((((q+1)+1)+1+1)+1) 12 129 hc fun x6 x61 x62=>?_
             simp only [go_sem,rdH]
             have x62:=x62 (by omega)
             with_reducible repeat' (first|rw [i64w (by omega)];try simp only [go_sem]|refine br ?_ ?_<;>intro h e<;>(try simp only [e,go_sem])<;>clear e|refine sd ?_<;>try simp only [go_sem]|fail)
             exact finE code p w ((((q+1)+1)+1+1)+1+1) ⟨2,a,x6,(ints6.getD x3.toNat default),.zero⟩
           · exact finE code p w ((((q+1)+1)+1+1)+1) ⟨2,a,(max (X - Y * 3) 0),(ints6.getD x3.toNat default),.zero⟩
        · have:=0
          refine pkN code ((q+1)+1) (w.nets.length+1) 116 hc fun x1 x11 x12=>?_
          simp only [go_sem,rdH]
          with_reducible repeat' (first|rw [i64w (by omega)];try simp only [go_sem]|refine br ?_ ?_<;>intro h e<;>(try simp only [e,go_sem])<;>clear e|refine sd ?_<;>try simp only [go_sem]|fail)
          exact finE code p w (((q+1)+1)+1) ⟨4,x1,0,0,.zero⟩
        · have:=0
          refine pkN code ((q+1)+1) (w.nets.length+1) 123 hc fun x1 x11 x12=>?_
          simp only [go_sem,rdH]
          with_reducible repeat' (first|rw [i64w (by omega)];try simp only [go_sem]|refine br ?_ ?_<;>intro h e<;>(try simp only [e,go_sem])<;>clear e|refine sd ?_<;>try simp only [go_sem]|fail)
          exact finE code p w (((q+1)+1)+1) ⟨5,x1,0,0,.zero⟩
        · have:=0
          refine pkN code ((q+1)+1) 2 39 hc fun x1 x11 x12=>?_
          simp only [go_sem,rdH]
          have x12:=x12 (by omega)
          with_reducible repeat' (first|rw [i64w (by omega)];try simp only [go_sem]|refine br ?_ ?_<;>intro h e<;>(try simp only [e,go_sem])<;>clear e|refine sd ?_<;>try simp only [go_sem]|fail)
          refine pkN code (((q+1)+1)+1) 9 42 hc fun x2 x21 x22=>?_
          simp only [go_sem,rdH]
          have x22:=x22 (by omega)
          with_reducible repeat' (first|rw [i64w (by omega)];try simp only [go_sem]|refine br ?_ ?_<;>intro h e<;>(try simp only [e,go_sem])<;>clear e|refine sd ?_<;>try simp only [go_sem]|fail)
          refine pkN code (((q+1)+1)+1+1) 3 46 hc fun x3 x31 x32=>?_
          simp only [go_sem,rdH]
          have x32:=x32 (by omega)
          with_reducible repeat' (first|rw [i64w (by omega)];try simp only [go_sem]|refine br ?_ ?_<;>intro h e<;>(try simp only [e,go_sem])<;>clear e|refine sd ?_<;>try simp only [go_sem]|fail)
          refine pkN code (((q+1)+1)+1+1+1) 6 50 hc fun x4 x41 x42=>?_
          simp only [go_sem,rdH]
          have x42:=x42 (by omega)
          with_reducible repeat' (first|rw [i64w (by omega)];try simp only [go_sem]|refine br ?_ ?_<;>intro h e<;>(try simp only [e,go_sem])<;>clear e|refine sd ?_<;>try simp only [go_sem]|fail)
          · have:=0
            refine callN (c102 code (((q+1)+1)+1+1+1+1) 8 hc (by omega) (by omega)) [0] [] true 56 1 (by simp only [go_sem,rdH];first|done|simp) (by simp only [go_sem,rdH];first|done|simp) (by simp) (by simp) (by simp) ?_ ?_ ?_
            · rintro _ _ ⟨q',_,_,rfl,_⟩
              exact ⟨by simp,by simp,.inl rfl,fun i hi=>by obtain rfl:i=0:=(by omega);simp [chH,stepOk,rdH]⟩
            · intro i hi;obtain rfl:i=0:=(by omega);simp only [go_sem]
            rintro _ _ ⟨q7,q71,q72,rfl,s,hs,rfl⟩
            simp only [go_sem,rdH]
            with_reducible repeat' (first|rw [i64w (by omega)];try simp only [go_sem]|refine br ?_ ?_<;>intro h e<;>(try simp only [e,go_sem])<;>clear e|refine sd ?_<;>try simp only [go_sem]|fail)
            exact finE code p w q7 ⟨6,0,0,0,⟨1+x1,⟨6,1+x2⟩,⟨9,10+x3⟩,x4,s++[113]⟩⟩
          · exact finE code p w (((q+1)+1)+1+1+1+1) ⟨6,0,0,0,⟨1+x1,⟨6,1+x2⟩,⟨9,10+x3⟩,x4,[]⟩⟩
  · have:=0
    with_reducible repeat' (first|rw [i64w (by omega)];try simp only [go_sem]|refine br ?_ ?_<;>intro h e<;>(try simp only [e,go_sem])<;>clear e|refine sd ?_<;>try simp only [go_sem]|fail)
    refine pkN code p (w.convs.length+1) 27 hc fun a a1 a2=>?_
    simp only [go_sem,rdH]
    have a2:=a2 (by omega)
    with_reducible repeat' (first|rw [i64w (by omega)];try simp only [go_sem]|refine br ?_ ?_<;>intro h e<;>(try simp only [e,go_sem])<;>clear e|refine sd ?_<;>try simp only [go_sem]|fail)
    · have:=0
      refine pkN code (p+1) 10 37 hc fun b b1 b2=>?_
      simp only [go_sem,rdH]
      with_reducible repeat' (first|rw [i64w (by omega)];try simp only [go_sem]|refine br ?_ ?_<;>intro h e<;>(try simp only [e,go_sem])<;>clear e|refine sd ?_<;>try simp only [go_sem]|fail)
      iterate 4
       · have:=0
         have hac:=acks 0 (by omega)
         have hck:0<w.convs.length:=by omega
         try simp only [getD_mp hck,go_sem]
         with_reducible repeat' (first|rw [i64w (by omega)];try simp only [go_sem,getD_mp hck]|refine br ?_ ?_<;>intro h e<;>(try simp only [e,go_sem,getD_mp hck])<;>clear e|refine sd ?_<;>try simp only [go_sem,getD_mp hck]|fail)
         refine pkN code ((p+1)+1) 6 74 hc fun x1 x11 x12=>?_
         simp only [go_sem,rdH]
         have x12:=x12 (by omega)
         have hd5:=div5 x11 x12
         generalize hX:(w.convs.getD 0 default).upAck=X at *
         generalize hY:x1.tdiv 5=Y at *
         have w1:IntKind.i64.wrap Y=Y:=i64w (by omega)
         have w2:IntKind.i64.wrap (Y * 3)=Y * 3:=i64w (by omega)
         have w3:IntKind.i64.wrap (X - Y * 3)=X - Y * 3:=i64w (by omega)
         try simp only [hX,hY,w1,w2,w3,ints6_e,go_sem]
         with_reducible repeat' (first|refine br ?_ ?_<;>intro h e<;>(try simp only [e,go_sem,getD_mp hck,hX,hY,w1,w2,w3,ints6_e])<;>clear e|rw [i64w (by omega)]|refine sd ?_<;>try simp only [go_sem,getD_mp hck,hX,hY,w1,w2,w3,ints6_e]|fail)
         refine pkN code (((p+1)+1)+1) 6 82 hc fun x3 x31 x32=>?_
         simp only [go_sem,rdH]
         have x32:=x32 (by omega)
         have h6:=lt6 x31 x32
         have h6':(x3:Int)<ints6.length:=by omega
         try simp only [getD_mp h6,ints6_e,ints6_l,List.length_map,go_sem]
         with_reducible repeat' (first|refine br ?_ ?_<;>intro h e<;>(try simp only [e,go_sem,getD_mp h6,ints6_e,ints6_l,List.length_map])<;>clear e|rw [i64w (by omega)]|refine sd ?_<;>try simp only [go_sem,getD_mp h6,ints6_e,ints6_l,List.length_map]|fail)
         refine pkN code (((p+1)+1)+1+1) 5 126 hc fun x5 x51 x52=>?_
         simp only [go_sem,rdH]
         have x52:=x52 (by omega)
         with_reducible repeat' (first|rw [i64w (by omega)];try simp only [go_sem]|refine br ?_ ?_<;>intro h e<;>(try simp only [e,go_sem])<;>clear e|refine sd ?_<;>try simp only [go_sem]|fail)
         · have:=0
           refine pkN code ((((p+1)+1)+1+1)+1) 12 129 hc fun x6 x61 x62=>?_
           simp only [go_sem,rdH]
           have x62:=x62 (by omega)
           with_reducible repeat' (first|rw [i64w (by omega)];try simp only [go_sem]|refine br ?_ ?_<;>intro h e<;>(try simp only [e,go_sem])<;>clear e|refine sd ?_<;>try simp only [go_sem]|fail)
           exact finE code p w ((((p+1)+1)+1+1)+1+1) ⟨1,0,x6,(ints6.getD x3.toNat default),.zero⟩
         · exact finE code p w ((((p+1)+1)+1+1)+1) ⟨1,0,(max (X - Y * 3) 0),(ints6.getD x3.toNat default),.zero⟩
      iterate 3
       · have:=0
         have hac:=acks 0 (by omega)
         have hck:0<w.convs.length:=by omega
         try simp only [getD_mp hck,go_sem]
         with_reducible repeat' (first|rw [i64w (by omega)];try simp only [go_sem,getD_mp hck]|refine br ?_ ?_<;>intro h e<;>(try simp only [e,go_sem,getD_mp hck])<;>clear e|refine sd ?_<;>try simp only [go_sem,getD_mp hck]|fail)
         refine pkN code ((p+1)+1) 6 99 hc fun x1 x11 x12=>?_
         simp only [go_sem,rdH]
         have x12:=x12 (by omega)
         have hd5:=div5 x11 x12
         generalize hX:(w.convs.getD 0 default).downAck=X at *
         generalize hY:x1.tdiv 5=Y at *
         have w1:IntKind.i64.wrap Y=Y:=i64w (by omega)
         have w2:IntKind.i64.wrap (Y * 3)=Y * 3:=i64w (by omega)
         have w3:IntKind.i64.wrap (X - Y * 3)=X - Y * 3:=i64w (by omega)
         try simp only [hX,hY,w1,w2,w3,ints6_e,go_sem]
         with_reducible repeat' (first|refine br ?_ ?_<;>intro h e<;>(try simp only [e,go_sem,getD_mp hck,hX,hY,w1,w2,w3,ints6_e])<;>clear e|rw [i64w (by omega)]|refine sd ?_<;>try simp only [go_sem,getD_mp hck,hX,hY,w1,w2,w3,ints6_e]|fail)
         refine pkN code (((p+1)+1)+1) 6 107 hc fun x3 x31 x32=>?_
         simp only [go_sem,rdH]
         have x32:=x32 (by omega)
         have h6:=lt6 x31 x32
         have h6':(x3:Int)<ints6.length:=by omega
         try simp only [getD_mp h6,ints6_e,ints6_l,List.length_map,go_sem]
         with_reducible repeat' (first|refine br ?_ ?_<;>intro h e<;>(try simp only [e,go_sem,getD_mp h6,ints6_e,ints6_l,List.length_map])<;>clear e|rw [i64w (by omega)]|refine sd ?_<;>try simp only [go_sem,getD_mp h6,ints6_e,ints6_l,List.length_map]|fail)
         refine pkN code (((p+1)+1)+1+1) 5 126 hc fun x5 x51 x52=>?_
         simp only [go_sem,rdH]
         have x52:=x52 (by omega)
         with_reducible repeat' (first|rw [i64w (by omega)];try simp only [go_sem]|refine br ?_ ?_<;>intro h e<;>(try simp only [e,go_sem])<;>clear e|refine sd ?_<;>try simp only [go_sem]|fail)
         · have:=0
           refine pkN code ((((p+1)+1)+1+1)+1) 12 129 hc fun x6 x61 x62=>?_
           simp only [go_sem,rdH]
           have x62:=x62 (by omega)
           with_reducible repeat' (first|rw [i64w (by omega)];try simp only [go_sem]|refine br ?_ ?_<;>intro h e<;>(try simp only [e,go_sem])<;>clear e|refine sd ?_<;>try simp only [go_sem]|fail)
           exact finE code p w ((((p+1)+1)+1+1)+1+1) ⟨2,0,x6,(ints6.getD x3.toNat default),.zero⟩
         · exact finE code p w ((((p+1)+1)+1+1)+1) ⟨2,0,(max (X - Y * 3) 0),(ints6.getD x3.toNat default),.zero⟩
      · have:=0
        refine pkN code ((p+1)+1) (w.nets.length+1) 116 hc fun x1 x11 x12=>?_
        simp only [go_sem,rdH]
        with_reducible repeat' (first|rw [i64w (by omega)];try simp only [go_sem]|refine br ?_ ?_<;>intro h e<;>(try simp only [e,go_sem])<;>clear e|refine sd ?_<;>try simp only [go_sem]|fail)
        exact finE code p w (((p+1)+1)+1) ⟨4,x1,0,0,.zero⟩
      · have:=0
        refine pkN code ((p+1)+1) (w.nets.length+1) 123 hc fun x1 x11 x12=>?_
        simp only [go_sem,rdH]
        with_reducible repeat' (first|rw [i64w (by omega)];try simp only [go_sem]|refine br ?_ ?_<;>intro h e<;>(try simp only [e,go_sem])<;>clear e|refine sd ?_<;>try simp only [go_sem]|fail)
        exact finE code p w (((p+1)+1)+1) ⟨5,x1,0,0,.zero⟩
      · have:=0
        refine pkN code ((p+1)+1) 2 39 hc fun x1 x11 x12=>?_
        simp only [go_sem,rdH]
        have x12:=x12 (by omega)
        with_reducible repeat' (first|rw [i64w (by omega)];try simp only [go_sem]|refine br ?_ ?_<;>intro h e<;>(try simp only [e,go_sem])<;>clear e|refine sd ?_<;>try simp only [go_sem]|fail)
        refine pkN code (((p+1)+1)+1) 9 42 hc fun x2 x21 x22=>?_
        simp only [go_sem,rdH]
        have x22:=x22 (by omega)
        with_reducible repeat' (first|rw [i64w (by omega)];try simp only [go_sem]|refine br ?_ ?_<;>intro h e<;>(try simp only [e,go_sem])<;>clear e|refine sd ?_<;>try simp only [go_sem]|fail)
        refine pkN code (((p+1)+1)+1+1) 3 46 hc fun x3 x31 x32=>?_
        simp only [go_sem,rdH]
        have x32:=x32 (by omega)
        with_reducible repeat' (first|rw [i64w (by omega)];try simp only [go_sem]|refine br ?_ ?_<;>intro h e<;>(try simp only [e,go_sem])<;>clear e|refine sd ?_<;>try simp only [go_sem]|fail)
        refine pkN code (((p+1)+1)+1+1+1) 6 50 hc fun x4 x41 x42=>?_
        simp only [go_sem,rdH]
        have x42:=x42 (by omega)
        with_reducible repeat' (first|rw [i64w (by omega)];try simp only [go_sem]|refine br ?_ ?_<;>intro h e<;>(try simp only [e,go_sem])<;>clear e|refine sd ?_<;>try simp only [go_sem]|fail)
        · have:=0
          refine callN (c102 code (((p+1)+1)+1+1+1+1) 8 hc (by omega) (by omega)) [0] [] true 56 1 (by simp only [go_sem,rdH];first|done|simp) (by simp only [go_sem,rdH];first|done|simp) (by simp) (by simp) (by simp) ?_ ?_ ?_
          · rintro _ _ ⟨q',_,_,rfl,_⟩
            exact ⟨by simp,by simp,.inl rfl,fun i hi=>by obtain rfl:i=0:=(by omega);simp [chH,stepOk,rdH]⟩
          · intro i hi;obtain rfl:i=0:=(by omega);simp only [go_sem]
          rintro _ _ ⟨q7,q71,q72,rfl,s,hs,rfl⟩
          simp only [go_sem,rdH]
          with_reducible repeat' (first|rw [i64w (by omega)];try simp only [go_sem]|refine br ?_ ?_<;>intro h e<;>(try simp only [e,go_sem])<;>clear e|refine sd ?_<;>try simp only [go_sem]|fail)
          exact finE code p w q7 ⟨6,0,0,0,⟨1+x1,⟨6,1+x2⟩,⟨9,10+x3⟩,x4,s++[113]⟩⟩
        · exact finE code p w (((p+1)+1)+1+1+1+1) ⟨6,0,0,0,⟨1+x1,⟨6,1+x2⟩,⟨9,10+x3⟩,x4,[]⟩⟩
    · have:=0
      have hal:a.toNat<w.convs.length:=by omega
      refine pkN code (p+1) 10 37 hc fun b b1 b2=>?_
      simp only [go_sem,rdH]
      with_reducible repeat' (first|rw [i64w (by omega)];try simp only [go_sem]|refine br ?_ ?_<;>intro h e<;>(try simp only [e,go_sem])<;>clear e|refine sd ?_<;>try simp only [go_sem]|fail)
      iterate 4
       · have:=0
         have hac:=acks a.toNat (by omega)
         have hck:a.toNat<w.convs.length:=by omega
         try simp only [getD_mp hck,go_sem]
         with_reducible repeat' (first|rw [i64w (by omega)];try simp only [go_sem,getD_mp hck]|refine br ?_ ?_<;>intro h e<;>(try simp only [e,go_sem,getD_mp hck])<;>clear e|refine sd ?_<;>try simp only [go_sem,getD_mp hck]|fail)
         refine pkN code ((p+1)+1) 6 74 hc fun x1 x11 x12=>?_
         simp only [go_sem,rdH]
         have x12:=x12 (by omega)
         have hd5:=div5 x11 x12
         generalize hX:(w.convs.getD a.toNat default).upAck=X at *
         generalize hY:x1.tdiv 5=Y at *
         have w1:IntKind.i64.wrap Y=Y:=i64w (by omega)
         have w2:IntKind.i64.wrap (Y * 3)=Y * 3:=i64w (by omega)
         have w3:IntKind.i64.wrap (X - Y * 3)=X - Y * 3:=i64w (by omega)
         try simp only [hX,hY,w1,w2,w3,ints6_e,go_sem]
         with_reducible repeat' (first|refine br ?_ ?_<;>intro h e<;>(try simp only [e,go_sem,getD_mp hck,hX,hY,w1,w2,w3,ints6_e])<;>clear e|rw [i64w (by omega)]|refine sd ?_<;>try simp only [go_sem,getD_mp hck,hX,hY,w1,w2,w3,ints6_e]|fail)
         refine pkN code (((p+1)+1)+1) 6 82 hc fun x3 x31 x32=>?_
         simp only [go_sem,rdH]
         have x32:=x32 (by omega)
         have h6:=lt6 x31 x32
         have h6':(x3:Int)<ints6.length:=by omega
         try simp only [getD_mp h6,ints6_e,ints6_l,List.length_map,go_sem]
         with_reducible repeat' (first|refine br ?_ ?_<;>intro h e<;>(try simp only [e,go_sem,getD_mp h6,ints6_e,ints6_l,List.length_map])<;>clear e|rw [i64w (by omega)]|refine sd ?_<;>try simp only [go_sem,getD_mp h6,ints6_e,ints6_l,List.length_map]|fail)
         refine pkN code (((p+1)+1)+1+1) 5 126 hc fun x5 x51 x52=>?_
         simp only [go_sem,rdH]
         have x52:=x52 (by omega)
         with_reducible repeat' (first|rw [i64w (by omega)];try simp only [go_sem]|refine br ?_ ?_<;>intro h e<;>(try simp only [e,go_sem])<;>clear e|refine sd ?_<;>try simp only [go_sem]|fail)
         · have:=0
           refine pkN code ((((p+1)+1)+1+1)+1) 12 129 hc fun x6 x61 x62=>?_
           simp only [go_sem,rdH]
           have x62:=x62 (by omega)
           with_reducible repeat' (first|rw [i64w (by omega)];try simp only [go_sem]|refine br ?_ ?_<;>intro h e<;>(try simp only [e,go_sem])<;>clear e|refine sd ?_<;>try simp only [go_sem]|fail)
           exact finE code p w ((((p+1)+1)+1+1)+1+1) ⟨1,a,x6,(ints6.getD x3.toNat default),.zero⟩
         · exact finE code p w ((((p+1)+1)+1+1)+1) ⟨1,a,(max (X - Y * 3) 0),(ints6.getD x3.toNat default),.zero⟩
      iterate 3
       · have:=0
         have hac:=acks a.toNat (by omega)
         have hck:a.toNat<w.convs.length:=by omega
         try simp only [getD_mp hck,go_sem]
         with_reducible repeat' (first|rw [i64w (by omega)];try simp only [go_sem,getD_mp hck]|refine br ?_ ?_<;>intro h e<;>(try simp only [e,go_sem,getD_mp hck])<;>clear e|refine sd ?_<;>try simp only [go_sem,getD_mp hck]|fail)
         refine pkN code ((p+1)+1) 6 99 hc fun x1 x11 x12=>?_
         simp only [go_sem,rdH]
         have x12:=x12 (by omega)
         have hd5:=div5 x11 x12
         generalize hX:(w.convs.getD a.toNat default).downAck=X at *
         generalize hY:x1.tdiv 5=Y at *
         have w1:IntKind.i64.wrap Y=Y:=i64w (by omega)
         have w2:IntKind.i64.wrap (Y * 3)=Y * 3:=i64w (by omega)
         have w3:IntKind.i64.wrap (X - Y * 3)=X - Y * 3:=i64w (by omega)
         try simp only [hX,hY,w1,w2,w3,ints6_e,go_sem]
         with_reducible repeat' (first|refine br ?_ ?_<;>intro h e<;>(try simp only [e,go_sem,getD_mp hck,hX,hY,w1,w2,w3,ints6_e])<;>clear e|rw [i64w (by omega)]|refine sd ?_<;>try simp only [go_sem,getD_mp hck,hX,hY,w1,w2,w3,ints6_e]|fail)
         refine pkN code (((p+1)+1)+1) 6 107 hc fun x3 x31 x32=>?_
         simp only [go_sem,rdH]
         have x32:=x32 (by omega)
         have h6:=lt6 x31 x32
         have h6':(x3:Int)<ints6.length:=by omega
         try simp only [getD_mp h6,ints6_e,ints6_l,List.length_map,go_sem]
         with_reducible repeat' (first|refine br ?_ ?_<;>intro h e<;>(try simp only [e,go_sem,getD_mp h6,ints6_e,ints6_l,List.length_map])<;>clear e|rw [i64w (by omega)]|refine sd ?_<;>try simp only [go_sem,getD_mp h6,ints6_e,ints6_l,List.length_map]|fail)
         refine pkN code (((p+1)+1)+1+1) 5 126 hc fun x5 x51 x52=>?_
         simp only [go_sem,rdH]
         have x52:=x52 (by omega)
         with_reducible repeat' (first|rw [i64w (by omega)];try simp only [go_sem]|refine br ?_ ?_<;>intro h e<;>(try simp only [e,go_sem])<;>clear e|refine sd ?_<;>try simp only [go_sem]|fail)
         · have:=0
           refine pkN code ((((p+1)+1)+1+1)+1) 12 129 hc fun x6 x61 x62=>?_
           simp only [go_sem,rdH]
           have x62:=x62 (by omega)
           with_reducible repeat' (first|rw [i64w (by omega)];try simp only [go_sem]|refine br ?_ ?_<;>intro h e<;>(try simp only [e,go_sem])<;>clear e|refine sd ?_<;>try simp only [go_sem]|fail)
           exact finE code p w ((((p+1)+1)+1+1)+1+1) ⟨2,a,x6,(ints6.getD x3.toNat default),.zero⟩
         · exact finE code p w ((((p+1)+1)+1+1)+1) ⟨2,a,(max (X - Y * 3) 0),(ints6.getD x3.toNat default),.zero⟩
      · have:=0
        refine pkN code ((p+1)+1) (w.nets.length+1) 116 hc fun x1 x11 x12=>?_
        simp only [go_sem,rdH]
        with_reducible repeat' (first|rw [i64w (by omega)];try simp only [go_sem]|refine br ?_ ?_<;>intro h e<;>(try simp only [e,go_sem])<;>clear e|refine sd ?_<;>try simp only [go_sem]|fail)
        exact finE code p w (((p+1)+1)+1) ⟨4,x1,0,0,.zero⟩
      · have:=0
        refine pkN code ((p+1)+1) (w.nets.length+1) 123 hc fun x1 x11 x12=>?_
        simp only [go_sem,rdH]
        with_reducible repeat' (first|rw [i64w (by omega)];try simp only [go_sem]|refine br ?_ ?_<;>intro h e<;>(try simp only [e,go_sem])<;>clear e|refine sd ?_<;>try simp only [go_sem]|fail)
        exact finE code p w (((p+1)+1)+1) ⟨5,x1,0,0,.zero⟩
      · have:=0
        refine pkN code ((p+1)+1) 2 39 hc fun x1 x11 x12=>?_
        simp only [go_sem,rdH]
        have x12:=x12 (by omega)
        with_reducible repeat' (first|rw [i64w (by omega)];try simp only [go_sem]|refine br ?_ ?_<;>intro h e<;>(try simp only [e,go_sem])<;>clear e|refine sd ?_<;>try simp only [go_sem]|fail)
        refine pkN code (((p+1)+1)+1) 9 42 hc fun x2 x21 x22=>?_
        simp only [go_sem,rdH]
        have x22:=x22 (by omega)
        with_reducible repeat' (first|rw [i64w (by omega)];try simp only [go_sem]|refine br ?_ ?_<;>intro h e<;>(try simp only [e,go_sem])<;>clear e|refine sd ?_<;>try simp only [go_sem]|fail)
        refine pkN code (((p+1)+1)+1+1) 3 46 hc fun x3 x31 x32=>?_
        simp only [go_sem,rdH]
        have x32:=x32 (by omega)
        with_reducible repeat' (first|rw [i64w (by omega)];try simp only [go_sem]|refine br ?_ ?_<;>intro h e<;>(try simp only [e,go_sem])<;>clear e|refine sd ?_<;>try simp only [go_sem]|fail)
        refine pkN code (((p+1)+1)+1+1+1) 6 50 hc fun x4 x41 x42=>?_
        simp only [go_sem,rdH]
        have x42:=x42 (by omega)
        with_reducible repeat' (first|rw [i64w (by omega)];try simp only [go_sem]|refine br ?_ ?_<;>intro h e<;>(try simp only [e,go_sem])<;>clear e|refine sd ?_<;>try simp only [go_sem]|fail)
        · have:=0
          refine callN (c102 code (((p+1)+1)+1+1+1+1) 8 hc (by omega) (by omega)) [0] [] true 56 1 (by simp only [go_sem,rdH];first|done|simp) (by simp only [go_sem,rdH];first|done|simp) (by simp) (by simp) (by simp) ?_ ?_ ?_
          · rintro _ _ ⟨q',_,_,rfl,_⟩
            exact ⟨by simp,by simp,.inl rfl,fun i hi=>by obtain rfl:i=0:=(by omega);simp [chH,stepOk,rdH]⟩
          · intro i hi;obtain rfl:i=0:=(by omega);simp only [go_sem]
          rintro _ _ ⟨q7,q71,q72,rfl,s,hs,rfl⟩
          simp only [go_sem,rdH]
          with_reducible repeat' (first|rw [i64w (by omega)];try simp only [go_sem]|refine br ?_ ?_<;>intro h e<;>(try simp only [e,go_sem])<;>clear e|refine sd ?_<;>try simp only [go_sem]|fail)
          exact finE code p w q7 ⟨6,0,0,0,⟨1+x1,⟨6,1+x2⟩,⟨9,10+x3⟩,x4,s++[113]⟩⟩
        · exact finE code p w (((p+1)+1)+1+1+1+1) ⟨6,0,0,0,⟨1+x1,⟨6,1+x2⟩,⟨9,10+x3⟩,x4,[]⟩⟩
def ic196:IC:=sR [oP 6 (.mv (.c s0)),oP 7 (.mv (.c (.bool false)))] (sR [mV 9 0,oP 10 (.lens (.t 9)),mV 8 10] (.seq (sR [mV 11 1,mV 12 8,bN 13 .gtr 11 12,mV 14 13,⟨some 15,some (14,false),.mv (.t 1)⟩,⟨some 16,some (14,false),.mv (.t 2)⟩,⟨some 17,some (14,false),.lens (.t 16)⟩,⟨some 18,some (14,false),.bin .add (.t 15) (.t 17)⟩,⟨some 19,some (14,false),.bin .gtr (.t 18) (.c (.int .i64 40))⟩,oP 20 (.pick (.t 14) (.c (.bool true)) (.t 19))] (.cond (.t 20) (sR [mV 21 0,mV 6 21,oP 7 (.mv (.c (.bool false)))] .ret) .skip)) (.seq (sR [mV 22 1,mV 23 2,oP 24 (.lens (.t 23)),bN 25 .add 22 24,mV 26 8,bN 27 .leq 25 26] (.cond (.t 27) (sR [mV 28 0,mV 6 28,oP 7 (.mv (.c (.bool true)))] .ret) .skip)) (sR [mV 29 0,mV 30 2,mV 31 8,mV 32 1,bN 33 .sub 31 32,oP 34 (.sls (.t 30) (some (.t 33)) none),bN 35 .add 29 34,mV 6 35,oP 7 (.mv (.c (.bool true)))] .ret))))
theorem dg196:Dg Tryz.prog 196 Tryz.f196 ic196 [(.t 6),(.t 7)]:=⟨Tryz.func196,by kernel_rfl,by kernel_rfl⟩
theorem c196 (came:B) (n:Int) (text:B) (hn:0≤n∧n≤1000) (hc:came.length≤1000) (ht:text.length≤1000):FnR Tryz.prog G 196 [.str came,.int .i64 n,.str text] (.tup [.str (behind came n text).1,.bool (behind came n text).2]):=by
  refine mF dg196 Tryz.ntmps196 ?_
  simp only [ic196,go_sem]
  with_reducible repeat' (first|rw [i64w (by omega)];try simp only [go_sem]|refine br ?_ ?_<;>intro h e<;>(try simp only [e,go_sem])<;>clear e|refine sd ?_<;>try simp only [go_sem]|fail)
  · have:behind came n text=(came,false):=by
      unfold behind;rw [if_pos (by simp;omega)]
    rw [this];exact ⟨rfl,rfl⟩
  · have:behind came n text=(came,false):=by
      unfold behind;rw [if_pos (by simp;omega)]
    rw [this];exact ⟨rfl,rfl⟩
  · have:behind came n text=(came,true):=by
      unfold behind;rw [if_neg (by simp;omega),if_pos (by omega)]
    rw [this];exact ⟨rfl,rfl⟩
  · refine pureG (by simp;omega) ?_
    simp only [go_sem]
    have:behind came n text=(came++text.drop (came.length - n).toNat,true):=by
      unfold behind;rw [if_neg (by simp;omega),if_neg (by omega)]
    rw [this,List.take_length];exact ⟨rfl,rfl⟩
def ic128:IC:=sR [oP 2 (.mv (.c (.bool false)))] (sR [mV 3 0,oP 4 (.call 105 [.t 3]),mV 5 4,⟨some 6,some (5,true),.mv (.t 0)⟩,⟨some 7,some (5,true),.lens (.t 6)⟩,⟨some 8,some (5,true),.bin .leq (.t 7) (.c (.int .i64 24))⟩,oP 9 (.pick (.t 5) (.t 8) (.c (.bool false))),mV 10 9,⟨some 11,some (10,true),.mv (.t 0)⟩,⟨some 12,some (10,true),.call 154 [.t 11]⟩,⟨some 13,some (10,true),.bin .eql (.t 12) (.c i0)⟩,oP 14 (.pick (.t 10) (.t 13) (.c (.bool false))),mV 2 14] .ret)
theorem dg128:Dg Tryz.prog 128 Tryz.f128 ic128 [(.t 2)]:=⟨Tryz.func128,by kernel_rfl,by kernel_rfl⟩
theorem c128 (t:B) (hl:t.length≤2000000):FnR Tryz.prog G 128 [.str t] (.bool (saying t)):=by
  refine mF dg128 Tryz.ntmps128 ?_
  simp only [ic128,go_sem]
  have c1:=c105 t hl
  have c2:=c154 t hl
  with_reducible repeat' (first|refine br ?_ ?_<;>intro h e<;>(try simp only [e,go_sem])<;>clear e|rw [i64w (by omega)]|refine sd ?_<;>try simp only [go_sem]|(first|refine cr (c1 ..) ?_|refine cr (c2 ..) ?_)<;>try simp only [go_sem]|fail)
  all_goals simp_all [saying]
  all_goals omega
def ic129:IC:=sR [oP 2 (.mv (.c (.bool false)))] (sR [mV 5 0,oP 6 (.call 164 [.t 5]),mV 3 6] (.seq (sR [oP 4 (.mv (.c i0))] (.block 0 (.loop (.seq (sR [mV 7 4,mV 8 3,oP 9 (.len (.t 8)),bN 10 .lss 7 9] (.cond (.t 10) .skip (.exit 0))) (.seq (.block 1 (sR [mV 13 3,mV 14 4,oP 15 (.iad 2 (.t 13) (.t 14)),lA 16 2 15,oP 17 (.call 133 [.t 16])] (.cond (.t 17) (sR [oP 2 (.mv (.c (.bool false)))] .ret) .skip))) (.reg [mV 11 4,oP 12 (.bin .add (.t 11) (.c (.int .i64 1))),mV 4 12])))))) (sR [oP 2 (.mv (.c (.bool true)))] .ret)))
theorem dg129:Dg Tryz.prog 129 Tryz.f129 ic129 [(.t 2)]:=⟨Tryz.func129,by kernel_rfl,by kernel_rfl⟩
theorem c129 (t:B) (hl:t.length≤2000000):FnR Tryz.prog G 129 [.str t] (.bool (ownT t)):=by
  refine mF dg129 Tryz.ntmps129 ?_
  simp only [ic129,go_sem]
  refine callR (c164 t hl) rfl rfl ?_
  simp only [go_sem]
  have hnl:(textNames t).length≤2000000:=by
    have h1:=textPieces_len t
    have h2:=names_le (textPieces t)
    unfold textNames;omega
  unfold ownT
  generalize textNames t=l at *
  refine loopN (fun i:Nat=>⟨getL [(3,.sl 2 (l.map E.row)),(4,.int .i64 (i:Int))],getH []⟩) (fun i=>l.length - i) (fun i=>i≤l.length∧(l.take i).any E.door=false) 0 (leQ []) ⟨Nat.zero_le _,by simp⟩ ?_
  intro i ⟨hi,ha⟩
  simp only [go_sem]
  by_cases h:(i:Int)<l.length
  · simp only [eq_true h,go_sem]
    have hil:i<l.length:=by omega
    have hg:l.getD i default=l[i]:=by simp [List.getD,hil]
    refine effG (by omega) ?_
    simp only [hg,go_sem]
    with_reducible repeat' (first|refine br ?_ ?_<;>intro h e<;>(try simp only [e,go_sem,hg])<;>clear e|rw [i64w (by omega)]|refine sd ?_<;>try simp only [go_sem,hg]|(first|refine cr (c133 ..) ?_)<;>try simp only [go_sem,hg]|fail)
    · have:l.any E.door=true:=List.any_eq_true.2 ⟨_,List.getElem_mem hil,by assumption⟩
      rw [this];rfl
    · refine ⟨i+1,by omega,⟨by omega, ?_⟩,(leQ [])⟩
      rw [List.take_add_one,List.getElem?_eq_getElem hil]
      simp only [Option.toList_some,List.any_append,ha,List.any_cons,List.any_nil,Bool.or_false,Bool.false_or]
      assumption
  · simp only [eq_false h,go_sem]
    have:i=l.length:=by omega
    subst this
    rw [List.take_length] at ha
    rw [ha];rfl
def ic79:IC:=sR [oP 4 (.box 39 (.t 0)),oP 5 (.box 39 (.t 1)),oP 8 (.alloc 41 [i0,i0,i0,i0,s0,s0,i0,i0,s0,s0]),oP 9 (.mv (.c (.bool false)))] (.seq (sR [lA 10 2 4,oP 11 (.call 127 [.t 10]),oP 12 (.un .not (.t 11)),mV 13 12,⟨some 14,some (13,false),.ld 2 true (.t 5)⟩,⟨some 15,some (13,false),.call 108 [.t 14]⟩,⟨some 16,some (13,false),.un .not (.t 15)⟩,oP 17 (.pick (.t 13) (.c (.bool true)) (.t 16)),mV 18 17,⟨some 19,some (18,false),.mv (.t 2)⟩,⟨some 20,some (18,false),.call 128 [.t 19]⟩,⟨some 21,some (18,false),.un .not (.t 20)⟩,oP 22 (.pick (.t 18) (.c (.bool true)) (.t 21)),mV 23 22,⟨some 24,some (23,false),.mv (.t 2)⟩,⟨some 25,some (23,false),.call 129 [.t 24]⟩,⟨some 26,some (23,false),.un .not (.t 25)⟩,oP 27 (.pick (.t 23) (.c (.bool true)) (.t 26)),mV 28 27,⟨some 29,some (28,false),.mv (.t 3)⟩,⟨some 30,some (28,false),.call 128 [.t 29]⟩,⟨some 31,some (28,false),.un .not (.t 30)⟩,oP 32 (.pick (.t 28) (.c (.bool true)) (.t 31))] (.cond (.t 32) (sR [oP 33 (.build [i0,i0,i0,i0,s0,s0,i0,i0,s0,s0] []),nP (.sto 10 (.t 8) (.t 33)),oP 9 (.mv (.c (.bool false)))] .ret) .skip)) (sR [lA 34 2 4,lA 35 2 5,mV 36 2,mV 37 3,oP 38 (.build [i0,i0,i0,i0,s0,s0,i0,i0,s0,s0] [(0,(2,.t 34)),(2,(2,.t 35)),(4,(1,.t 36)),(5,(1,.t 37))]),nP (.sto 10 (.t 8) (.t 38)),oP 9 (.mv (.c (.bool true)))] .ret))
theorem dg79:Dg Tryz.prog 79 Tryz.f79 ic79 [(.cell 8 10 true),(.t 9)]:=⟨Tryz.func79,by kernel_rfl,by kernel_rfl⟩
theorem c79 (i o:E) (up down:B) (h1:up.length≤2000000) (h2:down.length≤2000000):FnR Tryz.prog G 79 [.agg [.int .i64 i.a,.int .i64 i.p],.agg [.int .i64 o.a,.int .i64 o.p],.str up,.str down]
    (.tup [.agg (Conv.row ((convNew i o up down).getD .zero)),.bool (convNew i o up down).isSome]):=by
  refine mF dg79 Tryz.ntmps79 ?_
  simp only [ic79,go_sem]
  have c1:=c128 up h1
  have c2:=c128 down h2
  have c3:=c129 up h1
  with_reducible repeat' (first|refine br ?_ ?_<;>intro h e<;>(try simp only [e,go_sem])<;>clear e|rw [i64w (by omega)]|refine sd ?_<;>try simp only [go_sem]|(first|refine cr (c127 ..) ?_|refine cr (c108 ..) ?_|refine cr (c1 ..) ?_|refine cr (c2 ..) ?_|refine cr (c3 ..) ?_)<;>try simp only [go_sem]|fail)
  all_goals simp_all [convNew,Conv.zero,E.zero]
def ic106:IC:=sR [oP 1 (.box 41 (.t 0)),oP 2 (.mv (.c (.bool false)))] (sR [fD 6 0 1,lA 7 2 6,fD 8 2 1,lA 9 2 8,fD 10 4 1,lD 11 1 10,fD 12 5 1,lD 13 1 12,oP 14 (.call 79 [.t 7,.t 9,.t 11,.t 13]),mV 5 14,eX 15 5 0,eX 16 5 1,oP 3 (.alloc 41 [i0,i0,i0,i0,s0,s0,i0,i0,s0,s0]),nP (.sto 10 (.t 3) (.t 15)),mV 4 16] (sR [mV 17 4,mV 18 17,⟨some 19,some (18,true),.fad 6 (.t 1)⟩,⟨some 20,some (18,true),.ld 1 false (.t 19)⟩,⟨some 21,some (18,true),.fad 4 (.t 1)⟩,⟨some 22,some (18,true),.ld 1 false (.t 21)⟩,⟨some 23,some (18,true),.lens (.t 22)⟩,⟨some 24,some (18,true),.call 63 [.t 20,.c i0,.t 23]⟩,oP 25 (.pick (.t 18) (.t 24) (.c (.bool false))),mV 26 25,⟨some 27,some (26,true),.fad 7 (.t 1)⟩,⟨some 28,some (26,true),.ld 1 false (.t 27)⟩,⟨some 29,some (26,true),.fad 5 (.t 1)⟩,⟨some 30,some (26,true),.ld 1 false (.t 29)⟩,⟨some 31,some (26,true),.lens (.t 30)⟩,⟨some 32,some (26,true),.call 63 [.t 28,.c i0,.t 31]⟩,oP 33 (.pick (.t 26) (.t 32) (.c (.bool false))),mV 34 33,⟨some 35,some (34,true),.fad 8 (.t 1)⟩,⟨some 36,some (34,true),.ld 1 false (.t 35)⟩,⟨some 37,some (34,true),.call 105 [.t 36]⟩,oP 38 (.pick (.t 34) (.t 37) (.c (.bool false))),mV 39 38,⟨some 40,some (39,true),.fad 9 (.t 1)⟩,⟨some 41,some (39,true),.ld 1 false (.t 40)⟩,⟨some 42,some (39,true),.call 105 [.t 41]⟩,oP 43 (.pick (.t 39) (.t 42) (.c (.bool false))),mV 2 43] .ret))
theorem dg106:Dg Tryz.prog 106 Tryz.f106 ic106 [(.t 2)]:=⟨Tryz.func106,by kernel_rfl,by kernel_rfl⟩
theorem c106 (c:Conv) (h1:c.up.length≤2000000) (h2:c.down.length≤2000000) (h3:c.upGot.length≤2000000) (h4:c.downGot.length≤2000000):FnR Tryz.prog G 106 [.agg [.int .i64 c.ins.a,.int .i64 c.ins.p,.int .i64 c.out.a,.int .i64 c.out.p,.str c.up,.str c.down,.int .i64 c.upAck,.int .i64 c.downAck,.str c.upGot,.str c.downGot]] (.bool (convOk c)):=by
  refine mF dg106 Tryz.ntmps106 ?_
  simp only [ic106,go_sem]
  refine callR (c79 c.ins c.out c.up c.down h1 h2) rfl rfl ?_
  simp only [go_sem]
  have c1:=c105 c.upGot h3
  have c2:=c105 c.downGot h4
  with_reducible repeat' (first|refine br ?_ ?_<;>intro h e<;>(try simp only [e,go_sem])<;>clear e|rw [i64w (by omega)]|refine sd ?_<;>try simp only [go_sem]|(first|refine cr (c63 ..) ?_|refine cr (c1 ..) ?_|refine cr (c2 ..) ?_)<;>try simp only [go_sem]|fail)
  all_goals simp_all [convOk]
def ic130:IC:=sR [oP 5 (.box 41 (.t 0)),oP 10 (.alloc 54 [i0,i0,i0,i0,i0,i0,s0]),oP 11 (.mv (.c (.bool false)))] (sR [fD 14 0 5,lA 15 2 14,fD 16 2 5,lA 17 2 16,mV 18 3,oP 19 (.build [i0,i0,i0,i0,i0,i0,s0] [(0,(1,.c (.int .i64 1))),(1,(2,.t 15)),(3,(2,.t 17)),(5,(1,.t 18))]),oP 12 (.alloc 54 [i0,i0,i0,i0,i0,i0,s0]),nP (.sto 7 (.t 12) (.t 19))] (sR [fD 20 4 5,lD 21 1 20,mV 13 21] (.seq (sR [mV 22 1,oP 23 (.un .not (.t 22))] (.cond (.t 23) (sR [fD 24 2 5,lA 25 2 24,fD 26 1 12,nP (.sto 2 (.t 26) (.t 25))] (sR [mV 27 2,oP 28 (.build [i0,i0] [(0,(1,.c (.int .i64 9))),(1,(1,.t 27))]),fD 29 3 12,nP (.sto 2 (.t 29) (.t 28))] (.reg [fD 30 5 5,lD 31 1 30,mV 13 31]))) .skip)) (.seq (sR [mV 32 3,mV 33 13,oP 34 (.lens (.t 33)),oP 35 (.bin .sub (.t 34) (.c (.int .i64 1))),oP 36 (.call 63 [.t 32,.c i0,.t 35]),oP 37 (.un .not (.t 36)),mV 38 37,⟨some 39,some (38,false),.mv (.t 4)⟩,⟨some 40,some (38,false),.bin .lss (.t 39) (.c (.int .i64 1))⟩,oP 41 (.pick (.t 38) (.c (.bool true)) (.t 40)),mV 42 41,⟨some 43,some (42,false),.mv (.t 1)⟩,⟨some 44,some (42,false),.un .not (.t 43)⟩,⟨some 45,some (42,false),.mv (.t 44)⟩,⟨some 46,some (45,true),.fad 3 (.t 12)⟩,⟨some 47,some (45,true),.ld 2 true (.t 46)⟩,⟨some 48,some (45,true),.call 133 [.t 47]⟩,⟨some 49,some (45,true),.un .not (.t 48)⟩,⟨some 50,some (42,false),.pick (.t 45) (.t 49) (.c (.bool false))⟩,oP 51 (.pick (.t 42) (.c (.bool true)) (.t 50))] (.cond (.t 51) (sR [oP 52 (.build [i0,i0,i0,i0,i0,i0,s0] []),nP (.sto 7 (.t 10) (.t 52)),oP 11 (.mv (.c (.bool false)))] .ret) .skip)) (sR [mV 53 13,mV 54 3,mV 55 3,mV 56 4,mV 57 13,oP 58 (.lens (.t 57)),mV 59 3,bN 60 .sub 58 59,oP 61 (.mn (.t 56) (.t 60)),bN 62 .add 55 61,oP 63 (.sls (.t 53) (some (.t 54)) (some (.t 62))),fD 64 6 12,nP (.sto 1 (.t 64) (.t 63))] (sR [lA 65 7 12,nP (.sto 7 (.t 10) (.t 65)),oP 11 (.mv (.c (.bool true)))] .ret))))))
theorem dg130:Dg Tryz.prog 130 Tryz.f130 ic130 [(.cell 10 7 true),(.t 11)]:=⟨Tryz.func130,by kernel_rfl,by kernel_rfl⟩
theorem c130 (c:Conv) (up:Bool) (port n m:Int) (h1:c.up.length≤2000000) (h2:c.down.length≤2000000):FnR Tryz.prog G 130 [.agg [.int .i64 c.ins.a,.int .i64 c.ins.p,.int .i64 c.out.a,.int .i64 c.out.p,.str c.up,.str c.down,.int .i64 c.upAck,.int .i64 c.downAck,.str c.upGot,.str c.downGot],.bool up,.int .i64 port,.int .i64 n,.int .i64 m]
    (.tup [.agg (Pk.row ((say c up port n m).getD .zero)),.bool (say c up port n m).isSome]):=by
  refine mF dg130 Tryz.ntmps130 ?_
  simp only [ic130,go_sem]
  cases up<;>simp only [go_sem]
  · have hno:=fun h=>say_no (c:=c) (up:=false) (port:=port) (n:=n) (m:=m) h
    have hyes:=fun h1 h2 h3=>say_yes (c:=c) (up:=false) (port:=port) (n:=n) (m:=m) h1 h2 h3
    simp only [cond_false,true_and,Bool.false_eq_true,false_or] at hno hyes
    rw [i64w (by omega)]
    refine callR (c63 n 0 ((c.down.length:Int) - 1)) rfl rfl ?_
    cases hw:within n 0 ((c.down.length:Int) - 1)<;>simp only [go_sem]
    · rw [hno (.inl hw)];simp [Pk.zero,E.zero]
    have hw2:=M.within_iff.1 hw
    have w1:IntKind.i64.wrap ((c.down.length:Int) - n)=c.down.length - n:=i64w (by omega)
    have w2:1≤m→IntKind.i64.wrap (n+min m ((c.down.length:Int) - n))=n+min m ((c.down.length:Int) - n):=fun _=>i64w (by omega)
    with_reducible repeat' (first|refine br ?_ ?_<;>intro h e<;>(try simp only [e,go_sem,w1])<;>clear e|rw [i64w (by omega)]|refine sd ?_<;>try simp only [go_sem,w1]|(first|refine cr (c133 ..) ?_)<;>try simp only [go_sem,w1]|fail)
    · rw [hno (.inr (.inl (by assumption)))];simp [Pk.zero,E.zero]
    · rw [hyes hw (by omega) (by assumption),take_drop_len (by omega) (by omega)]
      simp
    · rw [hno (.inr (.inr (by assumption)))];simp [Pk.zero,E.zero]
  · have hno:=fun h=>say_no (c:=c) (up:=true) (port:=port) (n:=n) (m:=m) h
    have hyes:=fun h1 h2 h3=>say_yes (c:=c) (up:=true) (port:=port) (n:=n) (m:=m) h1 h2 h3
    simp only [cond_true,true_or,true_implies,Bool.true_eq_false,false_and,or_false] at hno hyes
    rw [i64w (by omega)]
    refine callR (c63 n 0 ((c.up.length:Int) - 1)) rfl rfl ?_
    cases hw:within n 0 ((c.up.length:Int) - 1)<;>simp only [go_sem]
    · rw [hno (.inl hw)];simp [Pk.zero,E.zero]
    have hw2:=M.within_iff.1 hw
    have w1:IntKind.i64.wrap ((c.up.length:Int) - n)=c.up.length - n:=i64w (by omega)
    have w2:1≤m→IntKind.i64.wrap (n+min m ((c.up.length:Int) - n))=n+min m ((c.up.length:Int) - n):=fun _=>i64w (by omega)
    with_reducible repeat' (first|refine br ?_ ?_<;>intro h e<;>(try simp only [e,go_sem,w1])<;>clear e|rw [i64w (by omega)]|refine sd ?_<;>try simp only [go_sem,w1]|(first|refine cr (c133 ..) ?_)<;>try simp only [go_sem,w1]|fail)
    · rw [hno (.inr (by assumption))];simp [Pk.zero,E.zero]
    · rw [hyes hw (by omega),take_drop_len (by omega) (by omega)]
      simp
end Go.Proofs.YtggifndkolojmaaGreatDoor.W
