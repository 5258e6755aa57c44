/- FnWorldUncalled: a stranger does nothing behind a drawn play, whatever it sends. Conditions: those of the row alone. -/
import Derived.Test.YtgganfobejnfaaaGreatDoorX07
import Derived.Test.YtgganfobejnfaaaGreatDoorX03
import Derived.Test.YtgganfobejnfaaaGreatDoorX04
import Derived.Test.YtgganfobejnfaaaGreatDoorCards
import Derived.Test.YtgganfobejnfaaaGreatDoorTie
set_option linter.all false
namespace Go.Proofs.YtgganfobejnfaaaGreatDoor.W
open Go Go.RowKit Go.Proofs Go.Proofs.YtgganfobejnfaaaGreatDoor.VL Go.Proofs.YtgganfobejnfaaaGreatDoor.M
attribute [local congr] optK_congr guardK_congr condK_congr runT_congr runD_congr wpI_congr CallV_congr LoopI_congr pureK_congr effK_congr calK_congr stepV_congr doV_congr exN_congr exB_congr retF_congr retQ_congr gK_congr condW_congr ldK_congr stoK_congr
attribute [local go_sem] argL_cons argL_nil argH_nil argH_cons chH_getH wpI_seq wpI_reg wpI_drw wpI_ret cond_k condW_t condW_f wpI_skip wpI_block wpI_exit wpI_loop exN_n exN_r exN_e exB_n exB_r exB_h exB_m runT_k kT_e runT_nil runD_k kD_e runD_nil step_u step_k gK_t gK_f do_mv do_bino bo_add bo_sub bo_mul bo_subu bo_quo bo_rem bo_xor bo_eql bo_neq bo_lss bo_leq bo_gtr bo_geq bo_cat bo_eqs bo_nes do_pick do_call do_cal calK_f do_box do_alloc do_ldk ldK_s do_stok stoK_s do_fad do_nilc do_not do_neg do_len do_lens do_ext do_eqs do_beq do_isn do_cvi do_sls do_idx do_mn do_mx do_build do_mkf do_s2b do_b2s do_slv do_iad do_bsl do_mks do_app ev_t ev_c app_some app_none
attribute [local go_sem] List.nil_append List.cons_append List.append_nil getL_hit getL_miss getH_nil getH_hit getH_miss nm_eq ne_eq Nat.reduceEqDiff not_false_eq_true Nat.reduceAdd Nat.add_zero Nat.zero_add if_true if_false ite_true ite_false pureK_s effK_s optK_s gdV_t gdV_f gdV_s pick_b ge_iff_le gt_iff_lt cond_true cond_false fresh_k cells_agg cells_int cells_bool cells_str cells_own cells_sl cells_nils ld_pv ld_pa ld_ip ldVar_t ldVar_f ldArr_t ldArr_f ldRow_t ldRow_f ldA_s ld1_s fad_pv fad_pa fad_ip nilc_pv nilc_pa nilc_ip not_b neg_i cvi_i ext_t retF_n retF_r
attribute [local go_sem] resV_k rvs_nil rvs_t rvs_c fstO_s consO_s resK_s resL_1 resL_2 resL_3 resL_4  Option.some.injEq List.map_cons List.map_nil List.all_cons List.all_nil Bool.and_true Bool.and_self Bool.not_true Bool.not_false Option.map_some Option.map_none sls_s slsG_s loV_n loV_i hiV_n hiV_i idx_s mn_i mx_i s2b_s b2s_s bytO_s bytes_nil bytes_cons conB_s slv_sl slv_own slv_nils slvG_s slvN_s slvO_s iad_sl iadG_map take_map drop_map List.length_map iad_own iad_view iadO_a iadW_a mks_i rowO_nils rowO_sl rowO_own rowA_a eq_self appG_nils appG_own appO_a guardP_T mapA_s bld_nil mkf_nil bldF_e fill_nil fill_cons mkf_e lens_s len_nils len_sl len_own len_view isn_nile isn_erre List.getElem?_cons_zero List.getElem?_cons_succ List.length_cons List.length_nil decide_true decide_false Int.toNat_natCast Int.cast_ofNat_Int Int.reduceLT Int.reduceLE Int.reduceEq Int.reduceAdd Int.reduceSub Int.reduceMul Int.reduceNeg Int.reduceToNat List.getD_cons_zero List.getD_cons_succ not_true_eq_false not_false_eq_true Bool.false_eq_true Bool.true_eq_false reduceCtorEq
attribute [local go_sem] E.row Pc.row Pair.row Part.row Strm.row Flw.row Pk.row Door.row Conv.row World.row Ev.row rdV E.eta Pc.eta Pair.eta Part.eta Strm.eta Pk.eta Flw.eta Conv.eta Door.eta World.eta Ev.eta
attribute [local go_sem] sub_ok st_pv st_pa stVar_v stArr_a Nat.le_refl List.drop_zero List.drop_succ_cons List.take_succ_cons List.take_zero setR Nat.reduceLeDiff
attribute [local go_sem] wk_bot wk2_bot wk1_bot wk_undef wk_tup_e wk2_agg_e wk_agg_e wk1_fn_e wk2_fn_e wk_fn_e wkl_nil wkl_cons wkh_var_e wkh_arr_e wkh_fresh_e wkh_dead_v wkh_dead_a wkh_dead_d wk0_undef wk0_int wk0_bool wk0_str wk0_nils wk0_nils_sl wk0_nilp wk0_nile wk0_erre wk0_sl wk0_iptr wk0_own wk0_view wk0_pv wk0_pa fzA_a fzW_a fzP_v wk0_own_sl wk0_view_sl wk0_pv_iptr WkS_nil WkS_cons WkN_nil WkN_cons nonB_nil nonB_cons getN_nil getN_hit getN_miss pinOk_0 pinOk_s and_true true_and and_self
attribute [local go_sem] bot_int one_int unt_int clo_int bot_bool one_bool unt_bool clo_bool bot_str one_str unt_str clo_str bot_nils one_nils unt_nils clo_nils bot_nilp one_nilp unt_nilp clo_nilp bot_nile one_nile unt_nile clo_nile bot_erre one_erre unt_erre clo_erre bot_raw one_raw unt_raw clo_raw bot_sl one_sl unt_sl clo_sl bot_own one_own unt_own clo_own bot_view one_view unt_view clo_view bot_pv one_pv unt_pv clo_pv bot_pa one_pa unt_pa clo_pa bot_iptr one_iptr unt_iptr clo_iptr unt_agg unt_fn one_fn
attribute [local go_sem] rn_tup rn_agg rn2_agg rn_fn rn2_fn rnfn1 rn_bot rn2_bot rn1_bot rn0_int rn0_bool rn0_str rn0_nils rn0_nilp rn0_nile rn0_erre rn0_sl rn0_iptr rn0_own rn0_view rn0_pv rn0_pa hrn_var hrn_arr hrn_dead outU_nil outU_cons deads_nil deads_cons bk_ge bk_lt nsF_0 nsF_s chH_0 chH_s chH_n newN_e andB_s eqR_nil eqR_i eqR_b eqR_s mapX_f mapX_t eqs_a beq_f beq_t live_arr live_var nsl_nil nsl_cons Nat.reduceMul Nat.reduceLT Nat.zero_le Nat.not_lt_zero
attribute [local go_sem] mV lD lA fD bN eX oP nP sR i0 s0
theorem newConvs_out:∀ {cs ns:List Conv},newConvs cs=some ns→∀ c∈ns,∃ o∈cs,c.out=o.out
  | [],ns,h,c,hc=>by cases h;cases hc
  | a :: cs,ns,h,c,hc=>by
    simp only [newConvs] at h
    split at h
    · rename_i n ns' h1 h2
      cases h
      rcases List.mem_cons.1 hc with rfl|hc
      · unfold convNew at h1
        split at h1
        · cases h1;exact ⟨a,List.mem_cons_self ..,rfl⟩
        · cases h1
      · obtain ⟨o,ho,e⟩:=newConvs_out h2 c hc
        exact ⟨o,List.mem_cons_of_mem _ ho,e⟩
    · cases h
theorem play_out {cs:List Conv} {es:List Ev} {w:M.World} (h:worldPlay cs es=some w):∀ c∈w.convs,∃ o∈cs,c.out=o.out:=by
  obtain ⟨w0,h1,_,rfl⟩:=worldPlay_is h
  have hx:=play_ext es w0
  intro c hc
  obtain ⟨i,hi⟩:=List.mem_iff_getElem?.1 hc
  have hl:i<w0.convs.length:=by rw [← hx.len];exact (List.getElem?_eq_some_iff.1 hi).1
  have hg:=List.getElem?_eq_getElem hl
  rw [(hx.cv i _ c hg hi).out]
  exact newConvs_out (worldNew_is h1).2.1 _ (List.mem_of_getElem? hg)
def strP (n:Nat):Pk:=if n % 2=0 then ⟨2,⟨6,1+(n % 9:Nat)⟩,⟨9,10+(n % 8:Nat)⟩,(n % 3:Nat),[]⟩ else ⟨1,⟨6,1+(n % 9:Nat)⟩,⟨9,10+(n % 8:Nat)⟩,(n % 3:Nat),[105,110]⟩
theorem strP_ok (n:Nat):pkOk (strP n)=true∧(strP n).inward=true∧(strP n).frm.a=6:=by
  have h1:(⟨6,1+(n % 9:Nat)⟩:E).outside=true:=E.outside_iff.2 (by simp only;omega)
  have h2:(⟨9,10+(n % 8:Nat)⟩:E).door=true:=E.door_iff.2 ⟨rfl,by simp only;omega⟩
  have h3:within ((n % 3:Nat):Int) 0 99=true:=M.within_iff.2 (by omega)
  have h4:txOk [105,110]=true:=by decide
  unfold strP
  split
  · refine ⟨?_, ?_,rfl⟩
    · simp only [pkOk,E.any,h1,h2,h3];simp
    · simp only [Pk.inward,h1,h2,Bool.and_self]
  · refine ⟨?_, ?_,rfl⟩
    · simp only [pkOk,E.any,h1,h2,h3,h4];simp
    · simp only [Pk.inward,h1,h2,Bool.and_self]
def ic5:IC:=sR [oP 4 (.mv (.c (.bool false)))] (.seq (sR [mV 14 0,oP 15 (.len (.t 14)),oP 16 (.bin .gtr (.t 15) (.c (.int .i64 1048576))),mV 17 16,⟨some 18,some (17,false),.mv (.t 1)⟩,⟨some 19,some (17,false),.len (.t 18)⟩,⟨some 20,some (17,false),.bin .gtr (.t 19) (.c (.int .i64 1048576))⟩,oP 21 (.pick (.t 17) (.c (.bool true)) (.t 20))] (.cond (.t 21) (sR [oP 4 (.mv (.c (.bool true)))] .ret) .skip)) (sR [mV 23 0,oP 24 (.call 15 [.t 23]),mV 22 24,eX 25 22 0,eX 26 22 1,mV 5 25,mV 6 26] (sR [mV 28 5,mV 29 6,oP 30 (.call 16 [.t 28,.t 29]),mV 27 30,eX 31 27 0,eX 32 27 1,oP 7 (.alloc 33 [.nils,.nils,.nils,.nils]),nP (.sto 4 (.t 7) (.t 31)),mV 8 32] (sR [mV 34 5,mV 35 6,oP 36 (.call 17 [.t 34,.t 35]),mV 33 36,eX 37 33 0,eX 38 33 1,oP 9 (.alloc 33 [.nils,.nils,.nils,.nils]),nP (.sto 4 (.t 9) (.t 37)),mV 10 38] (.seq (sR [mV 39 8,mV 40 10,oP 41 (.beq true (.t 39) (.t 40)),mV 42 41,⟨some 43,some (42,false),.ld 4 true (.t 7)⟩,⟨some 44,some (42,false),.ld 4 true (.t 9)⟩,⟨some 45,some (42,false),.call 18 [.t 43,.t 44]⟩,⟨some 46,some (42,false),.un .not (.t 45)⟩,oP 47 (.pick (.t 42) (.c (.bool true)) (.t 46)),mV 48 47,⟨some 49,some (48,false),.mv (.t 8)⟩,⟨some 50,some (48,false),.un .not (.t 49)⟩,oP 51 (.pick (.t 48) (.c (.bool true)) (.t 50)),mV 52 51,⟨some 53,some (52,false),.fad 3 (.t 7)⟩,⟨some 54,some (52,false),.ld 1 false (.t 53)⟩,⟨some 55,some (52,false),.len (.t 54)⟩,⟨some 56,some (52,false),.bin .eql (.t 55) (.c (.int .i64 10))⟩,oP 57 (.pick (.t 52) (.c (.bool true)) (.t 56))] (.cond (.t 57) (sR [mV 58 8,mV 59 10,oP 60 (.beq false (.t 58) (.t 59)),mV 61 60,⟨some 62,some (61,true),.ld 4 true (.t 7)⟩,⟨some 63,some (61,true),.ld 4 true (.t 9)⟩,⟨some 64,some (61,true),.call 18 [.t 62,.t 63]⟩,oP 65 (.pick (.t 61) (.t 64) (.c (.bool false))),mV 4 65] .ret) .skip)) (sR [mV 66 1,oP 67 (.len (.t 66)),oP 68 (.bin .rem (.t 67) (.c (.int .i64 9))),oP 69 (.bin .add (.c (.int .i64 1)) (.t 68)),oP 70 (.build [i0,i0] [(0,(1,.c (.int .i64 6))),(1,(1,.t 69))]),mV 71 1,oP 72 (.len (.t 71)),oP 73 (.bin .rem (.t 72) (.c (.int .i64 8))),oP 74 (.bin .add (.c (.int .i64 10)) (.t 73)),oP 75 (.build [i0,i0] [(0,(1,.c (.int .i64 9))),(1,(1,.t 74))]),mV 76 1,oP 77 (.len (.t 76)),oP 78 (.bin .rem (.t 77) (.c (.int .i64 3))),oP 79 (.build [i0,i0,i0,i0,i0,i0,s0] [(0,(1,.c (.int .i64 1))),(1,(2,.t 70)),(3,(2,.t 75)),(5,(1,.t 78)),(6,(1,.c (.str [105,110])))]),oP 11 (.alloc 40 [i0,i0,i0,i0,i0,i0,s0]),nP (.sto 7 (.t 11) (.t 79))] (.seq (sR [mV 80 1,oP 81 (.len (.t 80)),oP 82 (.bin .rem (.t 81) (.c (.int .i64 2))),oP 83 (.bin .eql (.t 82) (.c i0))] (.cond (.t 83) (sR [fD 84 0 11,nP (.sto 1 (.t 84) (.c (.int .i64 2)))] (.reg [fD 85 6 11,nP (.sto 1 (.t 85) (.c s0))])) .skip)) (sR [fD 86 3 7,lD 87 1 86,oP 88 (.len (.t 87)),mV 12 88] (sR [lA 89 4 7,lA 90 7 11,oP 91 (.build [i0,i0,i0,i0,i0,i0,i0,i0,i0,i0,s0] [(0,(1,.c (.int .i64 6))),(4,(7,.t 90))]),oP 92 (.call 24 [.t 89,.t 91]),oP 13 (.alloc 33 [.nils,.nils,.nils,.nils]),nP (.sto 4 (.t 13) (.t 92))] (.seq (.seq (.drw [0,1,3,0,8,31,63,127,255,127,1023,2047,127,8191,16383] [(0,fD 93 3 13),(1,lD 94 1 93),(2,oP 95 (.len (.t 94))),(3,mV 96 12),(4,oP 97 (.bin .add (.t 96) (.c (.int .i64 1)))),(5,bN 98 .neq 95 97),(6,mV 99 98),(7,⟨some 100,some (99,false),.fad 3 (.t 13)⟩),(8,⟨some 101,some (99,false),.ld 1 false (.t 100)⟩),(9,⟨some 102,some (99,false),.mv (.t 12)⟩),(10,⟨some 103,some (99,false),.iad 7 (.t 101) (.t 102)⟩),(11,⟨some 104,some (99,false),.ld 7 true (.t 103)⟩),(12,⟨some 105,some (99,false),.ld 7 true (.t 11)⟩),(13,⟨some 106,some (99,false),.eqs true [.i,.i,.i,.i,.i,.i,.s] (.t 104) (.t 105)⟩),(14,oP 107 (.pick (.t 99) (.c (.bool true)) (.t 106)))]) (.cond (.t 107) (sR [oP 4 (.mv (.c (.bool false)))] .ret) .skip)) (.seq (.drw [0,0,2,7,0,31,63] [(0,lA 108 4 13),(1,mV 109 12),(2,oP 110 (.build [i0,i0,i0,i0,i0,i0,i0,i0,i0,i0,s0] [(0,(1,.c (.int .i64 3))),(1,(1,.t 109))])),(3,oP 111 (.call 24 [.t 108,.t 110])),(4,lA 112 4 7),(5,oP 113 (.call 18 [.t 111,.t 112])),(6,mV 4 113)]) .ret)))))))))))
theorem dg5:Dg Tryz.prog 5 Tryz.f5 ic5 [(.t 4)]:=⟨Tryz.func5,by kernel_rfl,by kernel_rfl⟩
theorem c5 (code more:B):FnR Tryz.prog G 5 [.sl 1 (code.map byR),.sl 1 (more.map byR)] (.bool true):=by
  refine mF dg5 Tryz.ntmps5 ?_
  simp only [ic5,go_sem]
  by_cases hc:(1048576:Int)<code.length
  · simp only [eq_true hc,go_sem]
  simp only [eq_false hc,go_sem]
  by_cases hm:(1048576:Int)<more.length
  · simp only [eq_true hm,go_sem]
  simp only [eq_false hm,go_sem]
  refine callO (c15 code (by omega)) [] 24 0 (by simp only [go_sem];first|done|simp) (by simp) (by rintro _ _ ⟨_,_,_,_,_,rfl⟩;simp) (by intro i hi;omega) ?_
  rintro _ _ ⟨cs,es,⟨⟨hc1,hc2⟩,hcB⟩,⟨he1,heB⟩,rfl,rfl⟩
  simp only [go_sem]
  have fi:∀ es':List Ev,es'.length≤es.length→(∀ e∈es',e∈es)→_:=fun es' h1 h2=>c16 cs es' (by omega) (fun c h=>by have:=hcB c h;omega) (by omega) (fun e h=>by have:=heB e (h2 e h);omega)
  have f1:=fi es (Nat.le_refl _) fun e h=>h
  with_reducible repeat' (first|refine br ?_ ?_<;>intro h e<;>(try simp only [e,go_sem])<;>clear e|rw [i64w (by omega)]|refine sd ?_<;>try simp only [go_sem]|(first|refine cr (f1 ..) ?_)<;>try simp only [go_sem]|fail)
  refine callO (c17 cs es (by omega) (fun c h=>by have:=hcB c h;omega) (by omega) (fun e h=>by have:=heB e h;omega)) [] 36 4 (by simp only [go_sem];first|done|simp) (by simp) (by rintro _ _ (⟨w,_,rfl,rfl⟩|⟨_,rfl,rfl⟩)<;>simp) (by intro i hi;rcases (show i=0∨i=1∨i=2∨i=3 by omega) with rfl|rfl|rfl|rfl<;>simp only [go_sem]) ?_
  rintro _ _ (⟨w,hw,rfl,rfl⟩|⟨hw,rfl,rfl⟩)
  · rw [hw]
    have hwi:=play_wi hw
    have hcl:=hwi.cl
    have hnl:=hwi.nl
    simp only [go_sem,Option.isSome_some,Option.getD_some,btt]
    with_reducible repeat' (first|refine br ?_ ?_<;>intro h e<;>(try simp only [e,go_sem,btt])<;>clear e|rw [i64w (by omega)]|refine sd ?_<;>try simp only [go_sem,btt]|fail)
    refine callF (c18 w (wi_wb hwi)) [103600,103601,103602,103603] false (by simp only [go_sem];first|done|simp [E.row,Pc.row,Pair.row,Part.row,Flw.row,Pk.row,Conv.row]) (by simp only [List.mem_cons,List.not_mem_nil,or_false];rintro c (rfl|rfl|rfl|rfl)<;>simp only [go_sem]) rfl (.inr rfl) ?_
    simp only [go_sem]
    by_cases hn:(w.nets.length:Int)=10
    · simp only [eq_true hn,go_sem]
      with_reducible repeat' (first|refine br ?_ ?_<;>intro h e<;>(try simp only [e,go_sem,hn,btt])<;>clear e|rw [i64w (by omega)]|refine sd ?_<;>try simp only [go_sem,hn,btt]|fail)
      all_goals first
        | (refine callF (c18 w (wi_wb hwi)) [103600,103601,103602,103603] true (by simp only [go_sem];first|done|simp [E.row,Pc.row,Pair.row,Part.row,Flw.row,Pk.row,Conv.row]) (by simp only [List.mem_cons,List.not_mem_nil,or_false];rintro c (rfl|rfl|rfl|rfl)<;>simp only [go_sem]) rfl (.inl rfl) ?_
           simp only [go_sem];done)
        | (simp at h;done)
        | skip
    · simp only [eq_false hn,go_sem]
      have hok:=law_ok hw
      obtain ⟨q1,q2,q3⟩:=strP_ok more.length
      obtain ⟨l1,l2,l3⟩:=law_uncalled hwi hok (by omega) q1 q2 (fun c hc e=>by
        obtain ⟨o,ho,e2⟩:=play_out hw c hc
        have:=(hcB o ho).2.2
        rw [← e2,e,q3] at this
        omega)
      have t9:(more.length:Int).tmod 9=(more.length % 9:Nat):=by rw [Int.tmod_eq_emod_of_nonneg (by omega)];omega
      have t8:(more.length:Int).tmod 8=(more.length % 8:Nat):=by rw [Int.tmod_eq_emod_of_nonneg (by omega)];omega
      have t3:(more.length:Int).tmod 3=(more.length % 3:Nat):=by rw [Int.tmod_eq_emod_of_nonneg (by omega)];omega
      have t2:(more.length:Int).tmod 2=(more.length % 2:Nat):=by rw [Int.tmod_eq_emod_of_nonneg (by omega)];omega
      have hwx:WI ⟨w.convs,w.door,w.nets++[strP more.length]⟩:=by rw [← l1,worldDo,if_pos hok];exact wDo_ok hwi _
      rw [worldDo,if_pos hok] at l1
      rw [worldDo,if_pos l2] at l3
      have hlen:(strP more.length).text.length≤2000000:=by have:=(pkOk_P q1).len;omega
      have d1:=c24 w ⟨6,0,0,0,strP more.length⟩ hwi hok hlen
      have d2:=c24 ⟨w.convs,w.door,w.nets++[strP more.length]⟩ ⟨3,w.nets.length,0,0,.zero⟩ hwx l2 (by simp [Pk.zero])
      have fz:=c18 w (wi_wb hwi)
      rw [l1] at d1
      rw [l3] at d2
      have hg:(w.nets++[strP more.length]).getD w.nets.length default=strP more.length:=by simp [List.getD]
      have hnx:w.nets.length<(w.nets++[strP more.length]).length:=by simp
      by_cases h2:more.length % 2=0
      · have e:strP more.length=⟨2,⟨6,1+(more.length % 9:Nat)⟩,⟨9,10+(more.length % 8:Nat)⟩,(more.length % 3:Nat),[]⟩:=by rw [strP,if_pos h2]
        have h2':(((more.length % 2:Nat):Int)=0)=True:=eq_true (by omega)
        generalize strP more.length=q at *
        simp only [Pk.zero,E.zero,e] at d1 d2
        subst e
        with_reducible repeat' (first|rw [i64w (by omega)];try simp only [go_sem,eq_false hn,t9,t8,t3,t2,h2',getD_mp hnx,hg]|refine br ?_ ?_<;>intro h e<;>(try simp only [e,go_sem,eq_false hn,t9,t8,t3,t2,h2',getD_mp hnx,hg])<;>clear e|refine sd ?_<;>try simp only [go_sem,eq_false hn,t9,t8,t3,t2,h2',getD_mp hnx,hg]|(first|refine cr (d1 ..) ?_|refine cr (d2 ..) ?_|refine cr (fz ..) ?_)<;>try simp only [go_sem,eq_false hn,t9,t8,t3,t2,h2',getD_mp hnx,hg]|fail)
        all_goals first|(simp at h;done)|omega|(simp only [List.length_append,List.length_cons,List.length_nil] at *;omega)|trace_state
      · have e:strP more.length=⟨1,⟨6,1+(more.length % 9:Nat)⟩,⟨9,10+(more.length % 8:Nat)⟩,(more.length % 3:Nat),[105,110]⟩:=by rw [strP,if_neg h2]
        have h2':(((more.length % 2:Nat):Int)=0)=False:=eq_false (by omega)
        generalize strP more.length=q at *
        simp only [Pk.zero,E.zero,e] at d1 d2
        subst e
        with_reducible repeat' (first|rw [i64w (by omega)];try simp only [go_sem,eq_false hn,t9,t8,t3,t2,h2',getD_mp hnx,hg]|refine br ?_ ?_<;>intro h e<;>(try simp only [e,go_sem,eq_false hn,t9,t8,t3,t2,h2',getD_mp hnx,hg])<;>clear e|refine sd ?_<;>try simp only [go_sem,eq_false hn,t9,t8,t3,t2,h2',getD_mp hnx,hg]|(first|refine cr (d1 ..) ?_|refine cr (d2 ..) ?_|refine cr (fz ..) ?_)<;>try simp only [go_sem,eq_false hn,t9,t8,t3,t2,h2',getD_mp hnx,hg]|fail)
        all_goals first|(simp at h;done)|omega|(simp only [List.length_append,List.length_cons,List.length_nil] at *;omega)|trace_state
  · rw [hw]
    simp only [go_sem,Option.isSome_none,Option.getD_none,zero_e,List.map_nil,bff]
    with_reducible repeat' (first|refine br ?_ ?_<;>intro h e<;>(try simp only [e,go_sem,bff])<;>clear e|rw [i64w (by omega)]|refine sd ?_<;>try simp only [go_sem,bff]|fail)
    refine callF (c18 .zero zeroWB) [] true (by simp only [go_sem,zero_e,List.map_nil];first|done|simp) (by simp) rfl (.inl rfl) ?_
    simp only [go_sem,bff]
    with_reducible repeat' (first|refine br ?_ ?_<;>intro h e<;>(try simp only [e,go_sem,bff])<;>clear e|rw [i64w (by omega)]|refine sd ?_<;>try simp only [go_sem,bff]|fail)
    all_goals first
      | (refine callF (c18 .zero zeroWB) [] true (by simp only [go_sem,zero_e,List.map_nil];first|done|simp) (by simp) rfl (.inl rfl) ?_
         simp only [go_sem,bff];done)
      | skip
end Go.Proofs.YtgganfobejnfaaaGreatDoor.W
namespace Go.Proofs.YtgganfobejnfaaaGreatDoor.fnWorldUncalled
open Go Go.ChangeShapes Go.WideShapes Go.ChangeAt Go.RowKit Go.Proofs.YtgganfobejnfaaaGreatDoor.W
theorem walk (v0 v1:Value) (W:World) (hs:W.ShapedOpen Tryz.prog) (hL:laidMetH Tryz.prog Rows.fnWorldUncalledRow.laid W) (hv0:∃ code:M.B,VL.Den W noO noρ noH (.sl 1 (code.map M.byR)) v0) (hv1:∃ code:M.B,VL.Den W noO noρ noH (.sl 1 (code.map M.byR)) v1) :
    Calls Tryz.prog 5 #[v0,v1] W fun e W'=>e=.returned (.bool true)∧Below W.heap.size W W':=by
  obtain ⟨code,hdv0⟩:=hv0
  obtain ⟨more,hdv1⟩:=hv1
  have:=Go.Proofs.YtgganfobejnfaaaGreatDoor.W.FnR.calls (c5 code more) (us:=[v0,v1]) (gOk rfl hL hs) ⟨rfl,fun j a b ha hb=>by
    match j,ha,hb with
    | 0,ha,hb=>cases ha;cases hb;exact hdv0
    | 1,ha,hb=>cases ha;cases hb;exact hdv1
    | j+2,ha,hb=>simp at ha⟩
  exact this
set_option maxRecDepth 100000 in
theorem contract (H:Type) (enc:TypeId × Value→H) (W:World) (base:Nat) (args:Array Value) (ds gs:List (DataW H)) (before:List MemPlace)
    (hval:∀ (j:Nat) t v,Tryz.f5.params[j]?=some t→args[j]?=some v→Value.okWide Tryz.prog W .any base t v)
    (hW:DataW.Whole enc Tryz.prog Tryz.f5.params.toList Rows.fnWorldUncalledSpec.vars false W args.toList ds gs before) (hL:laidMetH Tryz.prog Rows.fnWorldUncalledRow.laid W) (hs:W.ShapedOpen Tryz.prog) :
    Calls Tryz.prog 5 args W fun e W'=>∃ v,e=.returned v∧Rows.fnWorldUncalledSpec.post enc Tryz.prog Tryz.f5 false true false false W args v W':=by
  have hW':=hW
  obtain ⟨p,q,hA0,hV,rfl,hfz,hnd⟩:=hW
  have hA:DataW.TrodAll enc Tryz.prog W 0 (fun _=>true) true Tryz.f5.params.toList args.toList ds p:=hA0
  rw [Tryz.params5] at hA hval
  obtain ⟨v0,r0s,d0,d0s,p0,q0,hargs0,rfl,rfl,h0,r0⟩:=trodAll_cons hA
  obtain ⟨v1,r1s,d1,d1s,p1,q1,hargs1,rfl,rfl,h1,r1⟩:=trodAll_cons r0
  obtain ⟨e1,e2,e3⟩:=trodAll_nil r1
  subst e1 e2 e3
  obtain rfl:args=#[v0,v1]:=by cases args;simp_all
  obtain ⟨rfl,rfl⟩:=trodVars_none hV
  obtain ⟨a0,len0,cap0,hv0⟩:=okWide_slice Tryz.underlying22 (hval 0 22 v0 rfl rfl)
  have k0:=h0
  have lt0:∀ x∈p0,x.block<W.heap.size:=by obtain ⟨m,hm⟩:=k0;exact DataW.trod_lt m _ _ _ hm
  have hc0:=open_code h0 ⟨a0,len0,cap0,hv0⟩
  obtain ⟨a1,len1,cap1,hv1⟩:=okWide_slice Tryz.underlying22 (hval 1 22 v1 rfl rfl)
  have k1:=h1
  have lt1:∀ x∈p1,x.block<W.heap.size:=by obtain ⟨m,hm⟩:=k1;exact DataW.trod_lt m _ _ _ hm
  have hc1:=open_code h1 ⟨a1,len1,cap1,hv1⟩
  clear hA0
  refine (walk v0 v1 W hs hL hc0 hc1).mono fun e W' ⟨he,bel⟩=>?_
  subst he
  exact ⟨_,rfl,_,_,_,[],_,[],hW',trodAll_mk1 (shut_bool Tryz.underlying4 _),(trodAll_cons_mk (Below.trod laidOut (by kernel_rfl) (of_decide_eq_true (by kernel_rfl)) k0 bel lt0) (trodAll_cons_mk (Below.trod laidOut (by kernel_rfl) (of_decide_eq_true (by kernel_rfl)) k1 bel lt1) trodAll_mk0)),rfl,bel.frame _,fun h=>by cases h⟩
theorem inP:(Rows.fnWorldUncalledRow.inPlace == Tryz.prog.inPlace 5)=true:=by kernel_rfl
theorem unf:(Rows.fnWorldUncalledRow.unfollowed == Tryz.prog.unfollowed 5)=true:=by kernel_rfl
theorem rcs:(Rows.fnWorldUncalledRow.recurses == Tryz.prog.recurses 5)=true:=by kernel_rfl
theorem nam:(Rows.fnWorldUncalledRow.named == Tryz.prog.varsNamed 5)=true:=by kernel_rfl
theorem lif:(Rows.fnWorldUncalledRow.lifted == Tryz.prog.liftsFinal)=true:=lifF
theorem pke:(Rows.fnWorldUncalledRow.plainKeys == Tryz.prog.plainKeys)=true:=pkeF
theorem mak:(Tryz.prog.make == some Rows.fnWorldUncalledRow.make)=true:=makF
theorem closed0:joinedFacts Tryz.prog 5 Tryz.f5 Rows.fnWorldUncalledSpec Rows.fnWorldUncalledRow=true:=by
  unfold joinedFacts
  rw [laidOut,mapF,inP,unf,rcs,nam,pke,stoF,mayF,lif,mak]
  kernel_rfl
theorem closed:joinedFacts Tryz.pinned.checked.prog 5 Tryz.f5 (OpenSpec.ofChange Rows.fnWorldUncalledSpec).bare Rows.fnWorldUncalledRow=true :=
  (show joinedFacts Tryz.pinned.checked.prog 5 Tryz.f5 (OpenSpec.ofChange Rows.fnWorldUncalledSpec).bare Rows.fnWorldUncalledRow=joinedFacts Tryz.prog 5 Tryz.f5 Rows.fnWorldUncalledSpec Rows.fnWorldUncalledRow by kernel_rfl).trans closed0
theorem door_met (os:Os) (args:Array Value):laidMetH Tryz.prog Rows.fnWorldUncalledRow.laid ((World.doorLaid Tryz.prog 400 os).forCall (fun _ _=>0) ⟨#[],args,[]⟩).memory :=
  laidMetH_of_parts3 (fuel:=8) (laidMet_of_run' 8 (by kernel_rfl) (by kernel_rfl)) (by kernel_rfl) (by kernel_rfl)
theorem reads (os:Os) {H:Type} (enc:TypeId × Value→H):∃ places,DataW.whole enc Tryz.prog ((World.doorLaid Tryz.prog 400 os).forCall (fun _ _=>0) ⟨#[],#[.slice none 0 0,.slice none 0 0],[]⟩).memory Tryz.f5.params.toList Rows.fnWorldUncalledSpec.vars false #[Value.slice none 0 0,Value.slice none 0 0].toList 8=some ([.nil,.nil],[],places) :=
  ⟨[],by kernel_rfl⟩
set_option maxRecDepth 100000 in
theorem lifted (os:Os) (started:os.Started) (H:Type) (enc:TypeId × Value→H) (F:Stop.Interp) :
    ReturnsInHanded {} Tryz.checked os 5 .any ((OpenSpec.ofChange Rows.fnWorldUncalledSpec).preRow enc Tryz.prog Tryz.f5 Rows.fnWorldUncalledRow.domain false Rows.fnWorldUncalledRow.laid) (((OpenSpec.ofChange Rows.fnWorldUncalledSpec).at F).post enc Tryz.prog Tryz.f5 false true false false):=by
  obtain ⟨places,hx⟩:=reads os enc
  refine returnsInHanded_of_row (C:=Tryz.checked) (s:=OpenSpec.ofChange Rows.fnWorldUncalledSpec) own started (by kernel_rfl) Tryz.func5
    (witness_row_atRef (enc:=enc) (C:=Tryz.checked) false (World.doorLaid Tryz.prog 400 os) #[.slice none 0 0,.slice none 0 0] rfl (by kernel_rfl) (by kernel_rfl) (by kernel_rfl)
      (OpenSpec.preRow_of_cond 8 hx (by kernel_rfl) (fun k hk=>by cases hk) (by kernel_rfl) (door_met os _))) ?_
  intro W base args ds gs before hval hW _ _ _ hL hs _
  exact contract H enc W base args ds gs before hval hW hL hs
theorem said:Rows.FnWorldUncalledSaid :=
  OpenClaim.holds_of_cond 5 Tryz.f5 rfl rfl rfl rfl rfl rfl rfl ⟨rfl,rfl,rfl,rfl,rfl⟩ rfl rfl rfl rfl rfl (by kernel_rfl) Tryz.func5 closed
    (of_decide_eq_true (by kernel_rfl)) (by unfold Func.isWrapper;first|(rw [if_pos (by decide +kernel)];kernel_rfl)|(rw [if_neg (by decide +kernel)];exact ⟨rfl,rfl⟩))
    (fun os started H enc _ F=>by rw [OpenClaim.pre_eq_preRow];exact lifted os started H enc F)
theorem plain (f:FuncId) (fn:Func) (hf:Tryz.pinned.checked.prog.funcNamed "loop.example/ostiary/laws.FnWorldUncalled"=some f) (hfn:Tryz.pinned.checked.prog.funcs[f]?=some fn) :
    true=Tryz.pinned.checked.prog.looks []∧∀ (j:Nat) t,fn.params[j]?=some t→Tryz.pinned.checked.prog.wantsStandIn t=false:=by
  obtain rfl:f=5:=Option.some.inj ((show Tryz.prog.funcNamed "loop.example/ostiary/laws.FnWorldUncalled"=some 5 by kernel_rfl).symm.trans hf) |>.symm
  obtain rfl:fn=Tryz.f5:=(Option.some.inj (Tryz.func5.symm.trans hfn)).symm
  refine ⟨by kernel_rfl,fun j t ht=>?_⟩
  rw [Tryz.params5] at ht
  obtain rfl:t=22:=by simpa using Array.mem_of_getElem? ht
  exact (show Tryz.prog.wantsStandIn 22=false by kernel_rfl)
theorem card:Rows.FnWorldUncalledCardSaid :=
  Claim7.holds_tied_plain_at .later [] _ _ _ _ said (fun _ h=>by cases h) (by kernel_rfl) (fun _ h=>by cases h) fnWorldUncalled_row_tie rfl ⟨rfl,rfl⟩ (by kernel_rfl) rfl plain (by kernel_rfl)
end Go.Proofs.YtgganfobejnfaaaGreatDoor.fnWorldUncalled
