/- FnWorldTwice: a packet brought twice does what it does once. Conditions: those of the row alone. -/
import Derived.Test.YtggifndkolojmaaGreatDoorX07
import Derived.Test.YtggifndkolojmaaGreatDoorX04
import Derived.Test.YtggifndkolojmaaGreatDoorCards
import Derived.Test.YtggifndkolojmaaGreatDoorTie
set_option linter.all false
namespace Go.Proofs.YtggifndkolojmaaGreatDoor.W
open Go Go.RowKit Go.Proofs Go.Proofs.YtggifndkolojmaaGreatDoor.VL Go.Proofs.YtggifndkolojmaaGreatDoor.M
attribute [local congr] optK_congr guardK_congr condK_congr runT_congr runD_congr wpI_congr CallV_congr LoopI_congr pureK_congr effK_congr calK_congr stepV_congr doV_congr exN_congr exB_congr retF_congr retQ_congr gK_congr condW_congr ldK_congr stoK_congr
attribute [local go_sem] argL_cons argL_nil argH_nil argH_cons chH_getH wpI_seq wpI_reg wpI_drw wpI_ret cond_k condW_t condW_f wpI_skip wpI_block wpI_exit wpI_loop exN_n exN_r exN_e exB_n exB_r exB_h exB_m runT_k kT_e runT_nil runD_k kD_e runD_nil step_u step_k gK_t gK_f do_mv do_bino bo_add bo_sub bo_mul bo_subu bo_quo bo_rem bo_xor bo_eql bo_neq bo_lss bo_leq bo_gtr bo_geq bo_cat bo_eqs bo_nes do_pick do_call do_cal calK_f do_box do_alloc do_ldk ldK_s do_stok stoK_s do_fad do_nilc do_not do_neg do_len do_lens do_ext do_eqs do_beq do_isn do_cvi do_sls do_idx do_mn do_mx do_build do_mkf do_s2b do_b2s do_slv do_iad do_bsl do_mks do_app ev_t ev_c app_some app_none
attribute [local go_sem] List.nil_append List.cons_append List.append_nil getL_hit getL_miss getH_nil getH_hit getH_miss nm_eq ne_eq Nat.reduceEqDiff not_false_eq_true Nat.reduceAdd Nat.add_zero Nat.zero_add if_true if_false ite_true ite_false pureK_s effK_s optK_s gdV_t gdV_f gdV_s pick_b ge_iff_le gt_iff_lt cond_true cond_false fresh_k cells_agg cells_int cells_bool cells_str cells_own cells_sl cells_nils ld_pv ld_pa ld_ip ldVar_t ldVar_f ldArr_t ldArr_f ldRow_t ldRow_f ldA_s ld1_s fad_pv fad_pa fad_ip nilc_pv nilc_pa nilc_ip not_b neg_i cvi_i ext_t retF_n retF_r
attribute [local go_sem] resV_k rvs_nil rvs_t rvs_c fstO_s consO_s resK_s resL_1 resL_2 resL_3 resL_4  Option.some.injEq List.map_cons List.map_nil List.all_cons List.all_nil Bool.and_true Bool.and_self Bool.not_true Bool.not_false Option.map_some Option.map_none sls_s slsG_s loV_n loV_i hiV_n hiV_i idx_s mn_i mx_i s2b_s b2s_s bytO_s bytes_nil bytes_cons conB_s slv_sl slv_own slv_nils slvG_s slvN_s slvO_s iad_sl iadG_map take_map drop_map List.length_map iad_own iad_view iadO_a iadW_a mks_i rowO_nils rowO_sl rowO_own rowA_a eq_self appG_nils appG_own appO_a guardP_T mapA_s bld_nil mkf_nil bldF_e fill_nil fill_cons mkf_e lens_s len_nils len_sl len_own len_view isn_nile isn_erre List.getElem?_cons_zero List.getElem?_cons_succ List.length_cons List.length_nil decide_true decide_false Int.toNat_natCast Int.cast_ofNat_Int Int.reduceLT Int.reduceLE Int.reduceEq Int.reduceAdd Int.reduceSub Int.reduceMul Int.reduceNeg Int.reduceToNat List.getD_cons_zero List.getD_cons_succ not_true_eq_false not_false_eq_true Bool.false_eq_true Bool.true_eq_false reduceCtorEq
attribute [local go_sem] E.row Pc.row Pair.row Part.row Strm.row Flw.row Pk.row Door.row Conv.row World.row Ev.row rdV E.eta Pc.eta Pair.eta Part.eta Strm.eta Pk.eta Flw.eta Conv.eta Door.eta World.eta Ev.eta
attribute [local go_sem] sub_ok st_pv st_pa stVar_v stArr_a Nat.le_refl List.drop_zero List.drop_succ_cons List.take_succ_cons List.take_zero setR Nat.reduceLeDiff
attribute [local go_sem] wk_bot wk2_bot wk1_bot wk_undef wk_tup_e wk2_agg_e wk_agg_e wk1_fn_e wk2_fn_e wk_fn_e wkl_nil wkl_cons wkh_var_e wkh_arr_e wkh_fresh_e wkh_dead_v wkh_dead_a wkh_dead_d wk0_undef wk0_int wk0_bool wk0_str wk0_nils wk0_nils_sl wk0_nilp wk0_nile wk0_erre wk0_sl wk0_iptr wk0_own wk0_view wk0_pv wk0_pa fzA_a fzW_a fzP_v wk0_own_sl wk0_view_sl wk0_pv_iptr WkS_nil WkS_cons WkN_nil WkN_cons nonB_nil nonB_cons getN_nil getN_hit getN_miss pinOk_0 pinOk_s and_true true_and and_self
attribute [local go_sem] bot_int one_int unt_int clo_int bot_bool one_bool unt_bool clo_bool bot_str one_str unt_str clo_str bot_nils one_nils unt_nils clo_nils bot_nilp one_nilp unt_nilp clo_nilp bot_nile one_nile unt_nile clo_nile bot_erre one_erre unt_erre clo_erre bot_raw one_raw unt_raw clo_raw bot_sl one_sl unt_sl clo_sl bot_own one_own unt_own clo_own bot_view one_view unt_view clo_view bot_pv one_pv unt_pv clo_pv bot_pa one_pa unt_pa clo_pa bot_iptr one_iptr unt_iptr clo_iptr unt_agg unt_fn one_fn
attribute [local go_sem] rn_tup rn_agg rn2_agg rn_fn rn2_fn rnfn1 rn_bot rn2_bot rn1_bot rn0_int rn0_bool rn0_str rn0_nils rn0_nilp rn0_nile rn0_erre rn0_sl rn0_iptr rn0_own rn0_view rn0_pv rn0_pa hrn_var hrn_arr hrn_dead outU_nil outU_cons deads_nil deads_cons bk_ge bk_lt nsF_0 nsF_s chH_0 chH_s chH_n newN_e andB_s eqR_nil eqR_i eqR_b eqR_s mapX_f mapX_t eqs_a beq_f beq_t live_arr live_var nsl_nil nsl_cons Nat.reduceMul Nat.reduceLT Nat.zero_le Nat.not_lt_zero
attribute [local go_sem] mV lD lA fD bN eX oP nP sR i0 s0
def ic7:IC:=sR [oP 4 (.mv (.c (.bool false)))] (.seq (sR [mV 12 0,oP 13 (.len (.t 12)),oP 14 (.bin .gtr (.t 13) (.c (.int .i64 1048576))),mV 15 14,⟨some 16,some (15,false),.mv (.t 1)⟩,⟨some 17,some (15,false),.len (.t 16)⟩,⟨some 18,some (15,false),.bin .gtr (.t 17) (.c (.int .i64 1048576))⟩,oP 19 (.pick (.t 15) (.c (.bool true)) (.t 18))] (.cond (.t 19) (sR [oP 4 (.mv (.c (.bool true)))] .ret) .skip)) (sR [mV 21 0,oP 22 (.call 19 [.t 21]),mV 20 22,eX 23 20 0,eX 24 20 1,oP 5 (.alloc 33 [.nils,.nils,.nils,.nils]),oP 6 (.alloc 56 [i0,i0,i0,i0,i0,i0,i0,i0,i0,i0,s0]),nP (.sto 4 (.t 5) (.t 23)),nP (.sto 11 (.t 6) (.t 24))] (sR [lA 25 4 5,lA 26 11 6,oP 27 (.call 20 [.t 25,.t 26]),oP 7 (.alloc 33 [.nils,.nils,.nils,.nils]),nP (.sto 4 (.t 7) (.t 27))] (.seq (.seq (.drw [0,0,0,6,15,31,63,127,255,511,1023,2047,4095,8191,16383,32767,65535,131071,262143,524287,1048575,2097151,4194303] [(0,lA 28 4 7),(1,lA 29 4 5),(2,lA 30 11 6),(3,oP 31 (.call 21 [.t 29,.t 30])),(4,oP 32 (.call 13 [.t 28,.t 31])),(5,oP 33 (.un .not (.t 32))),(6,mV 34 33),(7,⟨some 35,some (34,false),.ld 4 true (.t 5)⟩),(8,⟨some 36,some (34,false),.call 22 [.t 35]⟩),(9,⟨some 37,some (34,false),.un .not (.t 36)⟩),(10,oP 38 (.pick (.t 34) (.c (.bool true)) (.t 37))),(11,mV 39 38),(12,⟨some 40,some (39,false),.fad 3 (.t 5)⟩),(13,⟨some 41,some (39,false),.ld 1 false (.t 40)⟩),(14,⟨some 42,some (39,false),.len (.t 41)⟩),(15,⟨some 43,some (39,false),.bin .eql (.t 42) (.c i0)⟩),(16,oP 44 (.pick (.t 39) (.c (.bool true)) (.t 43))),(17,mV 45 44),(18,⟨some 46,some (45,false),.fad 3 (.t 5)⟩),(19,⟨some 47,some (45,false),.ld 1 false (.t 46)⟩),(20,⟨some 48,some (45,false),.len (.t 47)⟩),(21,⟨some 49,some (45,false),.bin .eql (.t 48) (.c (.int .i64 10))⟩),(22,oP 50 (.pick (.t 45) (.c (.bool true)) (.t 49)))]) (.cond (.t 50) (.seq (.drw [0,0,0,6,15,31] [(0,lA 51 4 7),(1,lA 52 4 5),(2,lA 53 11 6),(3,oP 54 (.call 21 [.t 52,.t 53])),(4,oP 55 (.call 13 [.t 51,.t 54])),(5,mV 4 55)]) .ret) .skip)) (sR [mV 56 1,oP 57 (.len (.t 56)),fD 58 3 5,lD 59 1 58,oP 60 (.len (.t 59)),bN 61 .rem 57 60,mV 8 61] (sR [lA 62 4 5,mV 63 8,oP 64 (.build [i0,i0,i0,i0,i0,i0,i0,i0,i0,i0,s0] [(0,(1,.c (.int .i64 3))),(1,(1,.t 63))]),oP 65 (.call 20 [.t 62,.t 64]),oP 9 (.alloc 33 [.nils,.nils,.nils,.nils]),nP (.sto 4 (.t 9) (.t 65))] (sR [lA 66 4 5,mV 67 8,oP 68 (.build [i0,i0,i0,i0,i0,i0,i0,i0,i0,i0,s0] [(0,(1,.c (.int .i64 5))),(1,(1,.t 67))]),oP 69 (.call 20 [.t 66,.t 68]),oP 10 (.alloc 33 [.nils,.nils,.nils,.nils]),nP (.sto 4 (.t 10) (.t 69))] (sR [lA 70 4 10,mV 71 8,oP 72 (.build [i0,i0,i0,i0,i0,i0,i0,i0,i0,i0,s0] [(0,(1,.c (.int .i64 3))),(1,(1,.t 71))]),oP 73 (.call 20 [.t 70,.t 72]),nP (.sto 4 (.t 10) (.t 73))] (sR [lA 74 4 10,fD 75 3 5,lD 76 1 75,oP 77 (.len (.t 76)),oP 78 (.bin .sub (.t 77) (.c (.int .i64 1))),oP 79 (.build [i0,i0,i0,i0,i0,i0,i0,i0,i0,i0,s0] [(0,(1,.c (.int .i64 3))),(1,(1,.t 78))]),oP 80 (.call 20 [.t 74,.t 79]),nP (.sto 4 (.t 10) (.t 80))] (.seq (sR [oP 11 (.mv (.c i0))] (.block 0 (.loop (.seq (sR [mV 81 11,fD 82 0 5,lD 83 1 82,oP 84 (.len (.t 83)),bN 85 .lss 81 84] (.cond (.t 85) .skip (.exit 0))) (.seq (.block 1 (.seq (.drw [0,1,0,7,15,0,32,0,224,480,1023] [(0,fD 88 0 10),(1,lD 89 1 88),(2,mV 90 11),(3,oP 91 (.iad 10 (.t 89) (.t 90))),(4,lA 92 10 91),(5,fD 93 0 9),(6,lD 94 1 93),(7,mV 95 11),(8,oP 96 (.iad 10 (.t 94) (.t 95))),(9,lA 97 10 96),(10,oP 98 (.eqs true [.i,.i,.i,.i,.s,.s,.i,.i,.s,.s] (.t 92) (.t 97)))]) (.cond (.t 98) (sR [oP 4 (.mv (.c (.bool false)))] .ret) .skip))) (.reg [mV 86 11,oP 87 (.bin .add (.t 86) (.c (.int .i64 1))),mV 11 87])))))) (sR [fD 99 1 10,lA 100 2 99,fD 101 1 9,lA 102 2 101,oP 103 (.call 25 [.t 100,.t 102]),mV 4 103] .ret)))))))))))
theorem dg7:Dg Tryz.prog 7 Tryz.f7 ic7 [(.t 4)]:=⟨Tryz.func7,by kernel_rfl,by kernel_rfl⟩
theorem c7 (code more:B):FnR Tryz.prog G 7 [.sl 1 (code.map byR),.sl 1 (more.map byR)] (.bool true):=by
  refine mF dg7 Tryz.ntmps7 ?_
  simp only [ic7,go_sem]
  by_cases hc:(1048576:Int)<code.length
  · simp only [eq_true hc,go_sem]
  simp only [eq_false hc,go_sem]
  by_cases hm:(1048576:Int)<more.length
  · simp only [eq_true hm,go_sem]
  simp only [eq_false hm,go_sem]
  refine callO (c19 code (by omega)) [] 22 0 (by simp only [go_sem];first|done|simp) (by simp) (by rintro _ _ ⟨_,_,_,_,_,rfl⟩;simp) (by intro i hi;omega) ?_
  rintro _ _ ⟨w,e,⟨hd,hz⟩,het,rfl,rfl⟩
  simp only [go_sem]
  have hq:worldOk w=true→∃ X,WX X w:=fun h=>(hd.q h).imp fun X hx=>hx.x
  have f1:=r20 w e hz.s hq (by omega)
  have f2:=r21 w e hz.s hq (by omega)
  have f3:=c22 w hz.s
  have f4:=c13 (worldDo w e) (do_wb hd e)
  cases hok:worldOk w with
  | false =>
    rw [hok] at f3
    generalize worldDo w e=x at *
    with_reducible repeat' (first|refine br ?_ ?_<;>intro h e<;>(try simp only [e,go_sem])<;>clear e|rw [i64w (by omega)]|refine sd ?_<;>try simp only [go_sem]|(first|refine cr (f1 ..) ?_|refine cr (f2 ..) ?_|refine cr (f3 ..) ?_|refine cr (f4 ..) ?_)<;>try simp only [go_sem]|fail)
  | true =>
    rw [hok] at f3
    obtain ⟨X,hx⟩:=hd.q hok
    have hxd:=hx.do e
    rw [(worldDo_e w e).1 hok] at f1 f2 f4
    obtain ⟨x,hxe⟩:∃ x,x=wDo w e:=⟨_,rfl⟩
    rw [← hxe] at f1 f2 f4 hxd
    have hnl:=hx.x.nl
    have hcl:=hx.x.cl
    by_cases hn0:(w.nets.length:Int)=0
    · with_reducible repeat' (first|refine br ?_ ?_<;>intro h e<;>(try simp only [e,go_sem,eq_true hn0])<;>clear e|rw [i64w (by omega)]|refine sd ?_<;>try simp only [go_sem,eq_true hn0]|(first|refine cr (f1 ..) ?_|refine cr (f2 ..) ?_|refine cr (f3 ..) ?_|refine cr (f4 ..) ?_)<;>try simp only [go_sem,eq_true hn0]|fail)
    by_cases hn10:(w.nets.length:Int)=10
    · with_reducible repeat' (first|refine br ?_ ?_<;>intro h e<;>(try simp only [e,go_sem,eq_false hn0,eq_true hn10])<;>clear e|rw [i64w (by omega)]|refine sd ?_<;>try simp only [go_sem,eq_false hn0,eq_true hn10]|(first|refine cr (f1 ..) ?_|refine cr (f2 ..) ?_|refine cr (f3 ..) ?_|refine cr (f4 ..) ?_)<;>try simp only [go_sem,eq_false hn0,eq_true hn10]|fail)
    obtain ⟨k,hk,hkl⟩:=tmod_nat more.length w.nets.length (by omega)
    obtain ⟨l1,l2⟩:=law_twice hx hkl (by omega)
    have q1:=hx.do ⟨3,k,0,0,.zero⟩
    have q2:=hx.do ⟨5,k,0,0,.zero⟩
    have q3:=q2.do ⟨3,k,0,0,.zero⟩
    have q4:=q3.do ⟨3,(w.nets.length:Int) - 1,0,0,.zero⟩
    have d1:=x20 w ⟨3,k,0,0,.zero⟩ hx.x hok (by simp [Pk.zero])
    have d2:=x20 w ⟨5,k,0,0,.zero⟩ hx.x hok (by simp [Pk.zero])
    have d3:=x20 _ ⟨3,k,0,0,.zero⟩ q2.x q2.ok (by simp [Pk.zero])
    have d4:=x20 _ ⟨3,(w.nets.length:Int) - 1,0,0,.zero⟩ q3.x q3.ok (by simp [Pk.zero])
    have hcx:=(wDo_ext w ⟨3,k,0,0,.zero⟩).len
    clear hxe hq
    generalize wDo w ⟨3,k,0,0,.zero⟩=u1 at *
    generalize wDo w ⟨5,k,0,0,.zero⟩=u2 at *
    generalize wDo u2 ⟨3,k,0,0,.zero⟩=u3 at *
    generalize wDo u3 ⟨3,(w.nets.length:Int) - 1,0,0,.zero⟩=u4 at *
    have f5:=lzD2 q1.x l2
    simp only [Pk.zero,E.zero] at d1 d2 d3 d4
    have hw1:IntKind.i64.wrap ((w.nets.length:Int) - 1)=(w.nets.length:Int) - 1:=i64w (by omega)
    with_reducible repeat' (first|refine br ?_ ?_<;>intro h e<;>(try simp only [e,go_sem,eq_false hn0,eq_false hn10,hk,hw1])<;>clear e|rw [i64w (by omega)]|refine sd ?_<;>try simp only [go_sem,eq_false hn0,eq_false hn10,hk,hw1]|(first|refine cr (f1 ..) ?_|refine cr (f2 ..) ?_|refine cr (f3 ..) ?_|refine cr (f4 ..) ?_|refine cr (d1 ..) ?_|refine cr (d2 ..) ?_|refine cr (d3 ..) ?_|refine cr (d4 ..) ?_)<;>try simp only [go_sem,eq_false hn0,eq_false hn10,hk,hw1]|fail)
    refine loopN (fun i:Nat=>⟨getL [(5,.pv 1005 0),(9,.pv 1009 0),(10,.pv 1010 0),(11,.int .i64 (i:Int))],getH [(1005,.var 33 [.sl 10 (w.convs.map Conv.row),.sl 3 (w.door.map.map Pair.row),.sl 8 (w.door.flows.map Flw.row),.sl 7 (w.nets.map Pk.row)]),(1009,.var 33 [.sl 10 (u1.convs.map Conv.row),.sl 3 (u1.door.map.map Pair.row),.sl 8 (u1.door.flows.map Flw.row),.sl 7 (u1.nets.map Pk.row)]),(1010,.var 33 [.sl 10 (u4.convs.map Conv.row),.sl 3 (u4.door.map.map Pair.row),.sl 8 (u4.door.flows.map Flw.row),.sl 7 (u4.nets.map Pk.row)])]⟩) (fun i=>w.convs.length - i) (fun i=>i≤w.convs.length) 0 (leQ []) (Nat.zero_le _) ?_
    intro i hi
    simp only [go_sem]
    by_cases h:(i:Int)<w.convs.length
    · have hil:i<w.convs.length:=by omega
      have hil1:i<u1.convs.length:=by omega
      have hg:u1.convs.getD i default=u1.convs[i]:=by simp [List.getD,hil1]
      simp only [eq_true h,go_sem]
      with_reducible repeat' (first|rw [i64w (by omega)];try simp only [go_sem,l1,hg,getD_mp hil1,E.ext_iff']|refine br ?_ ?_<;>intro h e<;>(try simp only [e,go_sem,l1,hg,getD_mp hil1,E.ext_iff'])<;>clear e|refine sd ?_<;>try simp only [go_sem,l1,hg,getD_mp hil1,E.ext_iff']|fail)
      all_goals first
        | exact ⟨i+1,by omega,by omega,(leQ [])⟩
        | (refine ⟨i+1,by omega,by omega, ?_⟩;rw [← l1];exact (leQ []))
        | trace_state
    · simp only [eq_false h,go_sem]
      with_reducible repeat' (first|refine br ?_ ?_<;>intro h e<;>(try simp only [e,go_sem])<;>clear e|rw [i64w (by omega)]|refine sd ?_<;>try simp only [go_sem]|(first|refine cr (f5 ..) ?_)<;>try simp only [go_sem]|fail)
end Go.Proofs.YtggifndkolojmaaGreatDoor.W
namespace Go.Proofs.YtggifndkolojmaaGreatDoor.fnWorldTwice
open Go Go.ChangeShapes Go.WideShapes Go.ChangeAt Go.RowKit Go.Proofs.YtggifndkolojmaaGreatDoor.W
theorem walk (v0 v1:Value) (W:World) (hs:W.ShapedOpen Tryz.prog) (hL:laidMetH Tryz.prog Rows.fnWorldTwiceRow.laid W) (hv0:∃ code:M.B,VL.Den W noO noρ noH (.sl 1 (code.map M.byR)) v0) (hv1:∃ code:M.B,VL.Den W noO noρ noH (.sl 1 (code.map M.byR)) v1) :
    Calls Tryz.prog 7 #[v0,v1] W fun e W'=>e=.returned (.bool true)∧Below W.heap.size W W':=by
  obtain ⟨code,hdv0⟩:=hv0
  obtain ⟨more,hdv1⟩:=hv1
  have:=Go.Proofs.YtggifndkolojmaaGreatDoor.W.FnR.calls (c7 code more) (us:=[v0,v1]) (gOk rfl hL hs) ⟨rfl,fun j a b ha hb=>by
    match j,ha,hb with
    | 0,ha,hb=>cases ha;cases hb;exact hdv0
    | 1,ha,hb=>cases ha;cases hb;exact hdv1
    | j+2,ha,hb=>simp at ha⟩
  exact this
set_option maxRecDepth 100000 in
theorem contract (H:Type) (enc:TypeId × Value→H) (W:World) (base:Nat) (args:Array Value) (ds gs:List (DataW H)) (before:List MemPlace)
    (hval:∀ (j:Nat) t v,Tryz.f7.params[j]?=some t→args[j]?=some v→Value.okWide Tryz.prog W .any base t v)
    (hW:DataW.Whole enc Tryz.prog Tryz.f7.params.toList Rows.fnWorldTwiceSpec.vars false W args.toList ds gs before) (hL:laidMetH Tryz.prog Rows.fnWorldTwiceRow.laid W) (hs:W.ShapedOpen Tryz.prog) :
    Calls Tryz.prog 7 args W fun e W'=>∃ v,e=.returned v∧Rows.fnWorldTwiceSpec.post enc Tryz.prog Tryz.f7 false true false false W args v W':=by
  have hW':=hW
  obtain ⟨p,q,hA0,hV,rfl,hfz,hnd⟩:=hW
  have hA:DataW.TrodAll enc Tryz.prog W 0 (fun _=>true) true Tryz.f7.params.toList args.toList ds p:=hA0
  rw [Tryz.params7] at hA hval
  obtain ⟨v0,r0s,d0,d0s,p0,q0,hargs0,rfl,rfl,h0,r0⟩:=trodAll_cons hA
  obtain ⟨v1,r1s,d1,d1s,p1,q1,hargs1,rfl,rfl,h1,r1⟩:=trodAll_cons r0
  obtain ⟨e1,e2,e3⟩:=trodAll_nil r1
  subst e1 e2 e3
  obtain rfl:args=#[v0,v1]:=by cases args;simp_all
  obtain ⟨rfl,rfl⟩:=trodVars_none hV
  obtain ⟨a0,len0,cap0,hv0⟩:=okWide_slice Tryz.underlying22 (hval 0 22 v0 rfl rfl)
  have k0:=h0
  have lt0:∀ x∈p0,x.block<W.heap.size:=by obtain ⟨m,hm⟩:=k0;exact DataW.trod_lt m _ _ _ hm
  have hc0:=open_code h0 ⟨a0,len0,cap0,hv0⟩
  obtain ⟨a1,len1,cap1,hv1⟩:=okWide_slice Tryz.underlying22 (hval 1 22 v1 rfl rfl)
  have k1:=h1
  have lt1:∀ x∈p1,x.block<W.heap.size:=by obtain ⟨m,hm⟩:=k1;exact DataW.trod_lt m _ _ _ hm
  have hc1:=open_code h1 ⟨a1,len1,cap1,hv1⟩
  clear hA0
  refine (walk v0 v1 W hs hL hc0 hc1).mono fun e W' ⟨he,bel⟩=>?_
  subst he
  exact ⟨_,rfl,_,_,_,[],_,[],hW',trodAll_mk1 (shut_bool Tryz.underlying4 _),(trodAll_cons_mk (Below.trod laidOut (by kernel_rfl) (of_decide_eq_true (by kernel_rfl)) k0 bel lt0) (trodAll_cons_mk (Below.trod laidOut (by kernel_rfl) (of_decide_eq_true (by kernel_rfl)) k1 bel lt1) trodAll_mk0)),rfl,bel.frame _,fun h=>by cases h⟩
theorem inP:(Rows.fnWorldTwiceRow.inPlace == Tryz.prog.inPlace 7)=true:=by kernel_rfl
theorem unf:(Rows.fnWorldTwiceRow.unfollowed == Tryz.prog.unfollowed 7)=true:=by kernel_rfl
theorem rcs:(Rows.fnWorldTwiceRow.recurses == Tryz.prog.recurses 7)=true:=by kernel_rfl
theorem nam:(Rows.fnWorldTwiceRow.named == Tryz.prog.varsNamed 7)=true:=by kernel_rfl
theorem lif:(Rows.fnWorldTwiceRow.lifted == Tryz.prog.liftsFinal)=true:=lifF
theorem pke:(Rows.fnWorldTwiceRow.plainKeys == Tryz.prog.plainKeys)=true:=pkeF
theorem mak:(Tryz.prog.make == some Rows.fnWorldTwiceRow.make)=true:=makF
theorem closed0:joinedFacts Tryz.prog 7 Tryz.f7 Rows.fnWorldTwiceSpec Rows.fnWorldTwiceRow=true:=by
  unfold joinedFacts
  rw [laidOut,mapF,inP,unf,rcs,nam,pke,stoF,mayF,lif,mak]
  kernel_rfl
theorem closed:joinedFacts Tryz.pinned.checked.prog 7 Tryz.f7 (OpenSpec.ofChange Rows.fnWorldTwiceSpec).bare Rows.fnWorldTwiceRow=true :=
  (show joinedFacts Tryz.pinned.checked.prog 7 Tryz.f7 (OpenSpec.ofChange Rows.fnWorldTwiceSpec).bare Rows.fnWorldTwiceRow=joinedFacts Tryz.prog 7 Tryz.f7 Rows.fnWorldTwiceSpec Rows.fnWorldTwiceRow by kernel_rfl).trans closed0
theorem door_met (os:Os) (args:Array Value):laidMetH Tryz.prog Rows.fnWorldTwiceRow.laid ((World.doorLaid Tryz.prog 400 os).forCall (fun _ _=>0) ⟨#[],args,[]⟩).memory :=
  laidMetH_of_parts3 (fuel:=8) (laidMet_of_run' 8 (by kernel_rfl) (by kernel_rfl)) (by kernel_rfl) (by kernel_rfl)
theorem reads (os:Os) {H:Type} (enc:TypeId × Value→H):∃ places,DataW.whole enc Tryz.prog ((World.doorLaid Tryz.prog 400 os).forCall (fun _ _=>0) ⟨#[],#[.slice none 0 0,.slice none 0 0],[]⟩).memory Tryz.f7.params.toList Rows.fnWorldTwiceSpec.vars false #[Value.slice none 0 0,Value.slice none 0 0].toList 8=some ([.nil,.nil],[],places) :=
  ⟨[],by kernel_rfl⟩
set_option maxRecDepth 100000 in
theorem lifted (os:Os) (started:os.Started) (H:Type) (enc:TypeId × Value→H) (F:Stop.Interp) :
    ReturnsInHanded {} Tryz.checked os 7 .any ((OpenSpec.ofChange Rows.fnWorldTwiceSpec).preRow enc Tryz.prog Tryz.f7 Rows.fnWorldTwiceRow.domain false Rows.fnWorldTwiceRow.laid) (((OpenSpec.ofChange Rows.fnWorldTwiceSpec).at F).post enc Tryz.prog Tryz.f7 false true false false):=by
  obtain ⟨places,hx⟩:=reads os enc
  refine returnsInHanded_of_row (C:=Tryz.checked) (s:=OpenSpec.ofChange Rows.fnWorldTwiceSpec) own started (by kernel_rfl) Tryz.func7
    (witness_row_atRef (enc:=enc) (C:=Tryz.checked) false (World.doorLaid Tryz.prog 400 os) #[.slice none 0 0,.slice none 0 0] rfl (by kernel_rfl) (by kernel_rfl) (by kernel_rfl)
      (OpenSpec.preRow_of_cond 8 hx (by kernel_rfl) (fun k hk=>by cases hk) (by kernel_rfl) (door_met os _))) ?_
  intro W base args ds gs before hval hW _ _ _ hL hs _
  exact contract H enc W base args ds gs before hval hW hL hs
theorem said:Rows.FnWorldTwiceSaid :=
  OpenClaim.holds_of_cond 7 Tryz.f7 rfl rfl rfl rfl rfl rfl rfl ⟨rfl,rfl,rfl,rfl,rfl⟩ rfl rfl rfl rfl rfl (by kernel_rfl) Tryz.func7 closed
    (of_decide_eq_true (by kernel_rfl)) (by unfold Func.isWrapper;first|(rw [if_pos (by decide +kernel)];kernel_rfl)|(rw [if_neg (by decide +kernel)];exact ⟨rfl,rfl⟩))
    (fun os started H enc _ F=>by rw [OpenClaim.pre_eq_preRow];exact lifted os started H enc F)
theorem plain (f:FuncId) (fn:Func) (hf:Tryz.pinned.checked.prog.funcNamed "loop.example/ostiary/laws.FnWorldTwice"=some f) (hfn:Tryz.pinned.checked.prog.funcs[f]?=some fn) :
    true=Tryz.pinned.checked.prog.looks []∧∀ (j:Nat) t,fn.params[j]?=some t→Tryz.pinned.checked.prog.wantsStandIn t=false:=by
  obtain rfl:f=7:=Option.some.inj ((show Tryz.prog.funcNamed "loop.example/ostiary/laws.FnWorldTwice"=some 7 by kernel_rfl).symm.trans hf) |>.symm
  obtain rfl:fn=Tryz.f7:=(Option.some.inj (Tryz.func7.symm.trans hfn)).symm
  refine ⟨by kernel_rfl,fun j t ht=>?_⟩
  rw [Tryz.params7] at ht
  obtain rfl:t=22:=by simpa using Array.mem_of_getElem? ht
  exact (show Tryz.prog.wantsStandIn 22=false by kernel_rfl)
theorem card:Rows.FnWorldTwiceCardSaid :=
  Claim7.holds_tied_plain_at .later [] _ _ _ _ said (fun _ h=>by cases h) (by kernel_rfl) (fun _ h=>by cases h) fnWorldTwice_row_tie rfl ⟨rfl,rfl⟩ (by kernel_rfl) rfl plain (by kernel_rfl)
end Go.Proofs.YtggifndkolojmaaGreatDoor.fnWorldTwice
