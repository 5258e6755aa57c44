/- FnWorldDo: one event keeps a world ok, and what came stays. Conditions: those of the row alone. -/
import Derived.Test.YtggifndkolojmaaGreatDoorX07
import Derived.Test.YtggifndkolojmaaGreatDoorX04
import Derived.Test.YtggifndkolojmaaGreatDoorCards
import Derived.Test.YtggifndkolojmaaGreatDoorTie
set_option linter.all false
namespace Go.Proofs.YtggifndkolojmaaGreatDoor.W
open Go Go.RowKit Go.Proofs Go.Proofs.YtggifndkolojmaaGreatDoor.VL Go.Proofs.YtggifndkolojmaaGreatDoor.M
attribute [local congr] optK_congr guardK_congr condK_congr runT_congr runD_congr wpI_congr CallV_congr LoopI_congr pureK_congr effK_congr calK_congr stepV_congr doV_congr exN_congr exB_congr retF_congr retQ_congr gK_congr condW_congr ldK_congr stoK_congr
attribute [local go_sem] argL_cons argL_nil argH_nil argH_cons chH_getH wpI_seq wpI_reg wpI_drw wpI_ret cond_k condW_t condW_f wpI_skip wpI_block wpI_exit wpI_loop exN_n exN_r exN_e exB_n exB_r exB_h exB_m runT_k kT_e runT_nil runD_k kD_e runD_nil step_u step_k gK_t gK_f do_mv do_bino bo_add bo_sub bo_mul bo_subu bo_quo bo_rem bo_xor bo_eql bo_neq bo_lss bo_leq bo_gtr bo_geq bo_cat bo_eqs bo_nes do_pick do_call do_cal calK_f do_box do_alloc do_ldk ldK_s do_stok stoK_s do_fad do_nilc do_not do_neg do_len do_lens do_ext do_eqs do_beq do_isn do_cvi do_sls do_idx do_mn do_mx do_build do_mkf do_s2b do_b2s do_slv do_iad do_bsl do_mks do_app ev_t ev_c app_some app_none
attribute [local go_sem] List.nil_append List.cons_append List.append_nil getL_hit getL_miss getH_nil getH_hit getH_miss nm_eq ne_eq Nat.reduceEqDiff not_false_eq_true Nat.reduceAdd Nat.add_zero Nat.zero_add if_true if_false ite_true ite_false pureK_s effK_s optK_s gdV_t gdV_f gdV_s pick_b ge_iff_le gt_iff_lt cond_true cond_false fresh_k cells_agg cells_int cells_bool cells_str cells_own cells_sl cells_nils ld_pv ld_pa ld_ip ldVar_t ldVar_f ldArr_t ldArr_f ldRow_t ldRow_f ldA_s ld1_s fad_pv fad_pa fad_ip nilc_pv nilc_pa nilc_ip not_b neg_i cvi_i ext_t retF_n retF_r
attribute [local go_sem] resV_k rvs_nil rvs_t rvs_c fstO_s consO_s resK_s resL_1 resL_2 resL_3 resL_4  Option.some.injEq List.map_cons List.map_nil List.all_cons List.all_nil Bool.and_true Bool.and_self Bool.not_true Bool.not_false Option.map_some Option.map_none sls_s slsG_s loV_n loV_i hiV_n hiV_i idx_s mn_i mx_i s2b_s b2s_s bytO_s bytes_nil bytes_cons conB_s slv_sl slv_own slv_nils slvG_s slvN_s slvO_s iad_sl iadG_map take_map drop_map List.length_map iad_own iad_view iadO_a iadW_a mks_i rowO_nils rowO_sl rowO_own rowA_a eq_self appG_nils appG_own appO_a guardP_T mapA_s bld_nil mkf_nil bldF_e fill_nil fill_cons mkf_e lens_s len_nils len_sl len_own len_view isn_nile isn_erre List.getElem?_cons_zero List.getElem?_cons_succ List.length_cons List.length_nil decide_true decide_false Int.toNat_natCast Int.cast_ofNat_Int Int.reduceLT Int.reduceLE Int.reduceEq Int.reduceAdd Int.reduceSub Int.reduceMul Int.reduceNeg Int.reduceToNat List.getD_cons_zero List.getD_cons_succ not_true_eq_false not_false_eq_true Bool.false_eq_true Bool.true_eq_false reduceCtorEq
attribute [local go_sem] E.row Pc.row Pair.row Part.row Strm.row Flw.row Pk.row Door.row Conv.row World.row Ev.row rdV E.eta Pc.eta Pair.eta Part.eta Strm.eta Pk.eta Flw.eta Conv.eta Door.eta World.eta Ev.eta
attribute [local go_sem] sub_ok st_pv st_pa stVar_v stArr_a Nat.le_refl List.drop_zero List.drop_succ_cons List.take_succ_cons List.take_zero setR Nat.reduceLeDiff
attribute [local go_sem] wk_bot wk2_bot wk1_bot wk_undef wk_tup_e wk2_agg_e wk_agg_e wk1_fn_e wk2_fn_e wk_fn_e wkl_nil wkl_cons wkh_var_e wkh_arr_e wkh_fresh_e wkh_dead_v wkh_dead_a wkh_dead_d wk0_undef wk0_int wk0_bool wk0_str wk0_nils wk0_nils_sl wk0_nilp wk0_nile wk0_erre wk0_sl wk0_iptr wk0_own wk0_view wk0_pv wk0_pa fzA_a fzW_a fzP_v wk0_own_sl wk0_view_sl wk0_pv_iptr WkS_nil WkS_cons WkN_nil WkN_cons nonB_nil nonB_cons getN_nil getN_hit getN_miss pinOk_0 pinOk_s and_true true_and and_self
attribute [local go_sem] bot_int one_int unt_int clo_int bot_bool one_bool unt_bool clo_bool bot_str one_str unt_str clo_str bot_nils one_nils unt_nils clo_nils bot_nilp one_nilp unt_nilp clo_nilp bot_nile one_nile unt_nile clo_nile bot_erre one_erre unt_erre clo_erre bot_raw one_raw unt_raw clo_raw bot_sl one_sl unt_sl clo_sl bot_own one_own unt_own clo_own bot_view one_view unt_view clo_view bot_pv one_pv unt_pv clo_pv bot_pa one_pa unt_pa clo_pa bot_iptr one_iptr unt_iptr clo_iptr unt_agg unt_fn one_fn
attribute [local go_sem] rn_tup rn_agg rn2_agg rn_fn rn2_fn rnfn1 rn_bot rn2_bot rn1_bot rn0_int rn0_bool rn0_str rn0_nils rn0_nilp rn0_nile rn0_erre rn0_sl rn0_iptr rn0_own rn0_view rn0_pv rn0_pa hrn_var hrn_arr hrn_dead outU_nil outU_cons deads_nil deads_cons bk_ge bk_lt nsF_0 nsF_s chH_0 chH_s chH_n newN_e andB_s eqR_nil eqR_i eqR_b eqR_s mapX_f mapX_t eqs_a beq_f beq_t live_arr live_var nsl_nil nsl_cons Nat.reduceMul Nat.reduceLT Nat.zero_le Nat.not_lt_zero
attribute [local go_sem] mV lD lA fD bN eX oP nP sR i0 s0
def ic4:IC:=sR [oP 2 (.mv (.c (.bool false)))] (.seq (sR [mV 10 0,oP 11 (.len (.t 10)),oP 12 (.bin .gtr (.t 11) (.c (.int .i64 1048576)))] (.cond (.t 12) (sR [oP 2 (.mv (.c (.bool true)))] .ret) .skip)) (sR [mV 14 0,oP 15 (.call 19 [.t 14]),mV 13 15,eX 16 13 0,eX 17 13 1,oP 3 (.alloc 33 [.nils,.nils,.nils,.nils]),oP 4 (.alloc 56 [i0,i0,i0,i0,i0,i0,i0,i0,i0,i0,s0]),nP (.sto 4 (.t 3) (.t 16)),nP (.sto 11 (.t 4) (.t 17))] (sR [lA 18 4 3,lA 19 11 4,oP 20 (.call 20 [.t 18,.t 19]),oP 5 (.alloc 33 [.nils,.nils,.nils,.nils]),nP (.sto 4 (.t 5) (.t 20))] (.seq (.seq (.drw [0,0,0,6,15,31,63,127,255,511,1023] [(0,lA 21 4 5),(1,lA 22 4 3),(2,lA 23 11 4),(3,oP 24 (.call 21 [.t 22,.t 23])),(4,oP 25 (.call 13 [.t 21,.t 24])),(5,oP 26 (.un .not (.t 25))),(6,mV 27 26),(7,⟨some 28,some (27,false),.ld 4 true (.t 3)⟩),(8,⟨some 29,some (27,false),.call 22 [.t 28]⟩),(9,⟨some 30,some (27,false),.un .not (.t 29)⟩),(10,oP 31 (.pick (.t 27) (.c (.bool true)) (.t 30)))]) (.cond (.t 31) (.seq (.drw [0,0,0,6,15,31] [(0,lA 32 4 5),(1,lA 33 4 3),(2,lA 34 11 4),(3,oP 35 (.call 21 [.t 33,.t 34])),(4,oP 36 (.call 13 [.t 32,.t 35])),(5,mV 2 36)]) .ret) .skip)) (.seq (sR [oP 6 (.mv (.c i0))] (.block 0 (.loop (.seq (sR [mV 37 6,fD 38 0 3,lD 39 1 38,oP 40 (.len (.t 39)),bN 41 .lss 37 40] (.cond (.t 41) .skip (.exit 0))) (.seq (.block 1 (sR [fD 44 0 3,lD 45 1 44,mV 46 6,oP 47 (.iad 10 (.t 45) (.t 46)),lA 48 10 47,oP 7 (.alloc 41 [i0,i0,i0,i0,s0,s0,i0,i0,s0,s0]),nP (.sto 10 (.t 7) (.t 48))] (sR [fD 49 0 5,lD 50 1 49,mV 51 6,oP 52 (.iad 10 (.t 50) (.t 51)),lA 53 10 52,oP 8 (.alloc 41 [i0,i0,i0,i0,s0,s0,i0,i0,s0,s0]),nP (.sto 10 (.t 8) (.t 53))] (sR [fD 54 8 7,lD 55 1 54,fD 56 8 8,lD 57 1 56,oP 58 (.call 18 [.t 55,.t 57]),oP 59 (.un .not (.t 58)),mV 60 59,⟨some 61,some (60,false),.fad 9 (.t 7)⟩,⟨some 62,some (60,false),.ld 1 false (.t 61)⟩,⟨some 63,some (60,false),.fad 9 (.t 8)⟩,⟨some 64,some (60,false),.ld 1 false (.t 63)⟩,⟨some 65,some (60,false),.call 18 [.t 62,.t 64]⟩,⟨some 66,some (60,false),.un .not (.t 65)⟩,oP 67 (.pick (.t 60) (.c (.bool true)) (.t 66)),mV 68 67,⟨some 69,some (68,false),.fad 6 (.t 7)⟩,⟨some 70,some (68,false),.ld 1 false (.t 69)⟩,⟨some 71,some (68,false),.fad 6 (.t 8)⟩,⟨some 72,some (68,false),.ld 1 false (.t 71)⟩,⟨some 73,some (68,false),.bin .gtr (.t 70) (.t 72)⟩,oP 74 (.pick (.t 68) (.c (.bool true)) (.t 73)),mV 75 74,⟨some 76,some (75,false),.fad 7 (.t 7)⟩,⟨some 77,some (75,false),.ld 1 false (.t 76)⟩,⟨some 78,some (75,false),.fad 7 (.t 8)⟩,⟨some 79,some (75,false),.ld 1 false (.t 78)⟩,⟨some 80,some (75,false),.bin .gtr (.t 77) (.t 79)⟩,oP 81 (.pick (.t 75) (.c (.bool true)) (.t 80)),mV 82 81,⟨some 83,some (82,false),.fad 4 (.t 7)⟩,⟨some 84,some (82,false),.ld 1 false (.t 83)⟩,⟨some 85,some (82,false),.fad 4 (.t 8)⟩,⟨some 86,some (82,false),.ld 1 false (.t 85)⟩,⟨some 87,some (82,false),.bin .neq (.t 84) (.t 86)⟩,oP 88 (.pick (.t 82) (.c (.bool true)) (.t 87)),mV 89 88,⟨some 90,some (89,false),.fad 5 (.t 7)⟩,⟨some 91,some (89,false),.ld 1 false (.t 90)⟩,⟨some 92,some (89,false),.fad 5 (.t 8)⟩,⟨some 93,some (89,false),.ld 1 false (.t 92)⟩,⟨some 94,some (89,false),.bin .neq (.t 91) (.t 93)⟩,oP 95 (.pick (.t 89) (.c (.bool true)) (.t 94))] (.cond (.t 95) (sR [oP 2 (.mv (.c (.bool false)))] .ret) .skip))))) (.reg [mV 42 6,oP 43 (.bin .add (.t 42) (.c (.int .i64 1))),mV 6 43])))))) (sR [fD 96 1 3,fD 97 0 96,lD 98 1 97,oP 99 (.len (.t 98)),mV 9 99] (.seq (.drw [0,1,3,7,15,31,63,7,255,511,1023,2047,4095,8191,2047,32767,2047,67583,198655,524287,1048575,2097151] [(0,lA 100 4 5),(1,oP 101 (.call 23 [.t 100])),(2,mV 102 101),(3,⟨some 103,some (102,true),.fad 1 (.t 5)⟩),(4,⟨some 104,some (102,true),.fad 0 (.t 103)⟩),(5,⟨some 105,some (102,true),.ld 1 false (.t 104)⟩),(6,⟨some 106,some (102,true),.len (.t 105)⟩),(7,⟨some 107,some (102,true),.mv (.t 9)⟩),(8,⟨some 108,some (102,true),.bin .geq (.t 106) (.t 107)⟩),(9,oP 109 (.pick (.t 102) (.t 108) (.c (.bool false)))),(10,mV 110 109),(11,⟨some 111,some (110,true),.fad 1 (.t 5)⟩),(12,⟨some 112,some (110,true),.fad 0 (.t 111)⟩),(13,⟨some 113,some (110,true),.ld 1 false (.t 112)⟩),(14,⟨some 114,some (110,true),.mv (.t 9)⟩),(15,⟨some 115,some (110,true),.slv 3 (.t 113) none (some (.t 114))⟩),(16,⟨some 116,some (110,true),.fad 1 (.t 3)⟩),(17,⟨some 117,some (110,true),.fad 0 (.t 116)⟩),(18,⟨some 118,some (110,true),.ld 1 false (.t 117)⟩),(19,⟨some 119,some (110,true),.call 24 [.t 115,.t 118]⟩),(20,oP 120 (.pick (.t 110) (.t 119) (.c (.bool false)))),(21,mV 2 120)]) .ret)))))))
theorem dg4:Dg Tryz.prog 4 Tryz.f4 ic4 [(.t 2)]:=⟨Tryz.func4,by kernel_rfl,by kernel_rfl⟩
theorem c4 (code:B):FnR Tryz.prog G 4 [.sl 1 (code.map byR)] (.bool true):=by
  refine mF dg4 Tryz.ntmps4 ?_
  simp only [ic4,go_sem]
  by_cases hc:(1048576:Int)<code.length
  · simp only [eq_true hc,go_sem]
  simp only [eq_false hc,go_sem]
  refine callO (c19 code (by omega)) [] 15 0 (by simp only [go_sem];first|done|simp) (by simp) (by rintro _ _ ⟨_,_,_,_,_,rfl⟩;simp) (by intro i hi;omega) ?_
  rintro _ _ ⟨w,e,⟨hd,hz⟩,het,rfl,rfl⟩
  simp only [go_sem]
  have hq:worldOk w=true→∃ X,WX X w:=fun h=>(hd.q h).imp fun X hx=>hx.x
  have f1:=r20 w e hz.s hq (by omega)
  have f2:=r21 w e hz.s hq (by omega)
  have f3:=c22 w hz.s
  have f4:=c13 (worldDo w e) (do_wb hd e)
  cases hok:worldOk w with
  | false =>
    rw [hok] at f3
    generalize worldDo w e=x at *
    with_reducible repeat' (first|refine br ?_ ?_<;>intro h e<;>(try simp only [e,go_sem])<;>clear e|rw [i64w (by omega)]|refine sd ?_<;>try simp only [go_sem]|(first|refine cr (f1 ..) ?_|refine cr (f2 ..) ?_|refine cr (f3 ..) ?_|refine cr (f4 ..) ?_)<;>try simp only [go_sem]|fail)
  | true =>
    rw [hok] at f3
    obtain ⟨X,hx⟩:=hd.q hok
    have hxd:=hx.do e
    rw [(worldDo_e w e).1 hok] at f1 f2 f4
    obtain ⟨x,hxe⟩:∃ x,x=wDo w e:=⟨_,rfl⟩
    rw [← hxe] at f1 f2 f4 hxd
    obtain ⟨l1,⟨y,l2⟩,l3,l4⟩:=law_do hx e
    rw [← hxe] at l1 l2 l3 l4
    have hcl:=hx.x.cl
    have hml:=wx_map hx.x
    have hmx:=wx_map hxd.x
    have f5:=c23 x (wx_ws hxd.x)
    rw [l1] at f5
    have f6:=lzM hx.x
    have hml2:(w.door.map.length:Int)≤x.door.map.length:=by rw [l2,List.length_append];omega
    have l5:x.door.map.take w.door.map.length=w.door.map:=by rw [l2];simp
    have xc:=hxd.x.cv
    clear hxe hq
    with_reducible repeat' (first|refine br ?_ ?_<;>intro h e<;>(try simp only [e,go_sem])<;>clear e|rw [i64w (by omega)]|refine sd ?_<;>try simp only [go_sem]|(first|refine cr (f1 ..) ?_|refine cr (f2 ..) ?_|refine cr (f3 ..) ?_|refine cr (f4 ..) ?_)<;>try simp only [go_sem]|fail)
    refine loopN (fun i:Nat=>⟨getL [(3,.pv 1003 0),(5,.pv 1005 0),(6,.int .i64 (i:Int))],getH [(1003,.var 33 [.sl 10 (w.convs.map Conv.row),.sl 3 (w.door.map.map Pair.row),.sl 8 (w.door.flows.map Flw.row),.sl 7 (w.nets.map Pk.row)]),(1005,.var 33 [.sl 10 (x.convs.map Conv.row),.sl 3 (x.door.map.map Pair.row),.sl 8 (x.door.flows.map Flw.row),.sl 7 (x.nets.map Pk.row)])]⟩) (fun i=>w.convs.length - i) (fun i=>i≤w.convs.length) 0 (leQ []) (Nat.zero_le _) ?_
    intro i hi
    simp only [go_sem]
    by_cases h:(i:Int)<w.convs.length
    · have hil:i<w.convs.length:=by omega
      have hil2:i<x.convs.length:=by omega
      have hg:w.convs.getD i default=w.convs[i]:=by simp [List.getD,hil]
      have hg2:x.convs.getD i default=x.convs[i]:=by simp [List.getD,hil2]
      have hcb:=convOk_B (xc _ (List.getElem_mem hil2))
      have hc:=l4 i _ _ (List.getElem?_eq_getElem hil) (List.getElem?_eq_getElem hil2)
      simp only [eq_true h,go_sem]
      generalize w.convs[i]=a at *
      generalize x.convs[i]=b at *
      have p1:a.upGot <+: b.upGot:=by obtain ⟨y,hy⟩:=hc.upGot;rw [hy];exact List.prefix_append _ _
      have p2:a.downGot <+: b.downGot:=by obtain ⟨y,hy⟩:=hc.downGot;rw [hy];exact List.prefix_append _ _
      have b1:=hcb.upGot
      have b2:=hcb.downGot
      have q1:=c18 a.upGot b.upGot p1 (by omega)
      have q2:=c18 a.downGot b.downGot p2 (by omega)
      have a1:¬ (b.upAck<a.upAck):=by have:=hc.upAck;omega
      have a2:¬ (b.downAck<a.downAck):=by have:=hc.downAck;omega
      have u1:=hc.up
      have u2:=hc.down
      clear p1 p2 b1 b2 hcb hc
      with_reducible repeat' (first|rw [i64w (by omega)];try simp only [go_sem,hg,hg2,getD_mp hil,getD_mp hil2,eq_false a1,eq_false a2,u1,u2]|refine br ?_ ?_<;>intro h e<;>(try simp only [e,go_sem,hg,hg2,getD_mp hil,getD_mp hil2,eq_false a1,eq_false a2,u1,u2])<;>clear e|refine sd ?_<;>try simp only [go_sem,hg,hg2,getD_mp hil,getD_mp hil2,eq_false a1,eq_false a2,u1,u2]|(first|refine cr (q1 ..) ?_|refine cr (q2 ..) ?_)<;>try simp only [go_sem,hg,hg2,getD_mp hil,getD_mp hil2,eq_false a1,eq_false a2,u1,u2]|fail)
      all_goals first
        | exact ⟨i+1,by omega,by omega,(leQ [])⟩
        | trace_state
    · simp only [eq_false h,go_sem]
      with_reducible repeat' (first|refine br ?_ ?_<;>intro h e<;>(try simp only [e,go_sem,take_map,List.drop_zero,Int.toNat_natCast,l5,eq_true hml2])<;>clear e|rw [i64w (by omega)]|refine sd ?_<;>try simp only [go_sem,take_map,List.drop_zero,Int.toNat_natCast,l5,eq_true hml2]|(first|refine cr (f5 ..) ?_|refine cr (f6 ..) ?_)<;>try simp only [go_sem,take_map,List.drop_zero,Int.toNat_natCast,l5,eq_true hml2]|fail)
end Go.Proofs.YtggifndkolojmaaGreatDoor.W
namespace Go.Proofs.YtggifndkolojmaaGreatDoor.fnWorldDo
open Go Go.ChangeShapes Go.WideShapes Go.ChangeAt Go.RowKit Go.Proofs.YtggifndkolojmaaGreatDoor.W
theorem walk (v0:Value) (W:World) (hs:W.ShapedOpen Tryz.prog) (hL:laidMetH Tryz.prog Rows.fnWorldDoRow.laid W) (hv0:∃ code:M.B,VL.Den W noO noρ noH (.sl 1 (code.map M.byR)) v0) :
    Calls Tryz.prog 4 #[v0] W fun e W'=>e=.returned (.bool true)∧Below W.heap.size W W':=by
  obtain ⟨code,hdv0⟩:=hv0
  have:=Go.Proofs.YtggifndkolojmaaGreatDoor.W.FnR.calls (c4 code) (us:=[v0]) (gOk rfl hL hs) ⟨rfl,fun j a b ha hb=>by
    match j,ha,hb with
    | 0,ha,hb=>cases ha;cases hb;exact hdv0
    | j+1,ha,hb=>simp at ha⟩
  exact this
set_option maxRecDepth 100000 in
theorem contract (H:Type) (enc:TypeId × Value→H) (W:World) (base:Nat) (args:Array Value) (ds gs:List (DataW H)) (before:List MemPlace)
    (hval:∀ (j:Nat) t v,Tryz.f4.params[j]?=some t→args[j]?=some v→Value.okWide Tryz.prog W .any base t v)
    (hW:DataW.Whole enc Tryz.prog Tryz.f4.params.toList Rows.fnWorldDoSpec.vars false W args.toList ds gs before) (hL:laidMetH Tryz.prog Rows.fnWorldDoRow.laid W) (hs:W.ShapedOpen Tryz.prog) :
    Calls Tryz.prog 4 args W fun e W'=>∃ v,e=.returned v∧Rows.fnWorldDoSpec.post enc Tryz.prog Tryz.f4 false true false false W args v W':=by
  have hW':=hW
  obtain ⟨p,q,hA0,hV,rfl,hfz,hnd⟩:=hW
  have hA:DataW.TrodAll enc Tryz.prog W 0 (fun _=>true) true Tryz.f4.params.toList args.toList ds p:=hA0
  rw [Tryz.params4] at hA hval
  obtain ⟨v0,r0s,d0,d0s,p0,q0,hargs0,rfl,rfl,h0,r0⟩:=trodAll_cons hA
  obtain ⟨e1,e2,e3⟩:=trodAll_nil r0
  subst e1 e2 e3
  obtain rfl:args=#[v0]:=by cases args;simp_all
  obtain ⟨rfl,rfl⟩:=trodVars_none hV
  obtain ⟨a0,len0,cap0,hv0⟩:=okWide_slice Tryz.underlying22 (hval 0 22 v0 rfl rfl)
  have k0:=h0
  have lt0:∀ x∈p0,x.block<W.heap.size:=by obtain ⟨m,hm⟩:=k0;exact DataW.trod_lt m _ _ _ hm
  have hc0:=open_code h0 ⟨a0,len0,cap0,hv0⟩
  clear hA0
  refine (walk v0 W hs hL hc0).mono fun e W' ⟨he,bel⟩=>?_
  subst he
  exact ⟨_,rfl,_,_,_,[],_,[],hW',trodAll_mk1 (shut_bool Tryz.underlying4 _),(trodAll_cons_mk (Below.trod laidOut (by kernel_rfl) (of_decide_eq_true (by kernel_rfl)) k0 bel lt0) trodAll_mk0),rfl,bel.frame _,fun h=>by cases h⟩
theorem inP:(Rows.fnWorldDoRow.inPlace == Tryz.prog.inPlace 4)=true:=by kernel_rfl
theorem unf:(Rows.fnWorldDoRow.unfollowed == Tryz.prog.unfollowed 4)=true:=by kernel_rfl
theorem rcs:(Rows.fnWorldDoRow.recurses == Tryz.prog.recurses 4)=true:=by kernel_rfl
theorem nam:(Rows.fnWorldDoRow.named == Tryz.prog.varsNamed 4)=true:=by kernel_rfl
theorem lif:(Rows.fnWorldDoRow.lifted == Tryz.prog.liftsFinal)=true:=lifF
theorem pke:(Rows.fnWorldDoRow.plainKeys == Tryz.prog.plainKeys)=true:=pkeF
theorem mak:(Tryz.prog.make == some Rows.fnWorldDoRow.make)=true:=makF
theorem closed0:joinedFacts Tryz.prog 4 Tryz.f4 Rows.fnWorldDoSpec Rows.fnWorldDoRow=true:=by
  unfold joinedFacts
  rw [laidOut,mapF,inP,unf,rcs,nam,pke,stoF,mayF,lif,mak]
  kernel_rfl
theorem closed:joinedFacts Tryz.pinned.checked.prog 4 Tryz.f4 (OpenSpec.ofChange Rows.fnWorldDoSpec).bare Rows.fnWorldDoRow=true :=
  (show joinedFacts Tryz.pinned.checked.prog 4 Tryz.f4 (OpenSpec.ofChange Rows.fnWorldDoSpec).bare Rows.fnWorldDoRow=joinedFacts Tryz.prog 4 Tryz.f4 Rows.fnWorldDoSpec Rows.fnWorldDoRow by kernel_rfl).trans closed0
theorem door_met (os:Os) (args:Array Value):laidMetH Tryz.prog Rows.fnWorldDoRow.laid ((World.doorLaid Tryz.prog 400 os).forCall (fun _ _=>0) ⟨#[],args,[]⟩).memory :=
  laidMetH_of_parts3 (fuel:=8) (laidMet_of_run' 8 (by kernel_rfl) (by kernel_rfl)) (by kernel_rfl) (by kernel_rfl)
theorem reads (os:Os) {H:Type} (enc:TypeId × Value→H):∃ places,DataW.whole enc Tryz.prog ((World.doorLaid Tryz.prog 400 os).forCall (fun _ _=>0) ⟨#[],#[.slice none 0 0],[]⟩).memory Tryz.f4.params.toList Rows.fnWorldDoSpec.vars false #[Value.slice none 0 0].toList 8=some ([.nil],[],places) :=
  ⟨[],by kernel_rfl⟩
set_option maxRecDepth 100000 in
theorem lifted (os:Os) (started:os.Started) (H:Type) (enc:TypeId × Value→H) (F:Stop.Interp) :
    ReturnsInHanded {} Tryz.checked os 4 .any ((OpenSpec.ofChange Rows.fnWorldDoSpec).preRow enc Tryz.prog Tryz.f4 Rows.fnWorldDoRow.domain false Rows.fnWorldDoRow.laid) (((OpenSpec.ofChange Rows.fnWorldDoSpec).at F).post enc Tryz.prog Tryz.f4 false true false false):=by
  obtain ⟨places,hx⟩:=reads os enc
  refine returnsInHanded_of_row (C:=Tryz.checked) (s:=OpenSpec.ofChange Rows.fnWorldDoSpec) own started (by kernel_rfl) Tryz.func4
    (witness_row_atRef (enc:=enc) (C:=Tryz.checked) false (World.doorLaid Tryz.prog 400 os) #[.slice none 0 0] rfl (by kernel_rfl) (by kernel_rfl) (by kernel_rfl)
      (OpenSpec.preRow_of_cond 8 hx (by kernel_rfl) (fun k hk=>by cases hk) (by kernel_rfl) (door_met os _))) ?_
  intro W base args ds gs before hval hW _ _ _ hL hs _
  exact contract H enc W base args ds gs before hval hW hL hs
theorem said:Rows.FnWorldDoSaid :=
  OpenClaim.holds_of_cond 4 Tryz.f4 rfl rfl rfl rfl rfl rfl rfl ⟨rfl,rfl,rfl,rfl,rfl⟩ rfl rfl rfl rfl rfl (by kernel_rfl) Tryz.func4 closed
    (of_decide_eq_true (by kernel_rfl)) (by unfold Func.isWrapper;first|(rw [if_pos (by decide +kernel)];kernel_rfl)|(rw [if_neg (by decide +kernel)];exact ⟨rfl,rfl⟩))
    (fun os started H enc _ F=>by rw [OpenClaim.pre_eq_preRow];exact lifted os started H enc F)
theorem plain (f:FuncId) (fn:Func) (hf:Tryz.pinned.checked.prog.funcNamed "loop.example/ostiary/laws.FnWorldDo"=some f) (hfn:Tryz.pinned.checked.prog.funcs[f]?=some fn) :
    true=Tryz.pinned.checked.prog.looks []∧∀ (j:Nat) t,fn.params[j]?=some t→Tryz.pinned.checked.prog.wantsStandIn t=false:=by
  obtain rfl:f=4:=Option.some.inj ((show Tryz.prog.funcNamed "loop.example/ostiary/laws.FnWorldDo"=some 4 by kernel_rfl).symm.trans hf) |>.symm
  obtain rfl:fn=Tryz.f4:=(Option.some.inj (Tryz.func4.symm.trans hfn)).symm
  refine ⟨by kernel_rfl,fun j t ht=>?_⟩
  rw [Tryz.params4] at ht
  obtain rfl:t=22:=by simpa using Array.mem_of_getElem? ht
  exact (show Tryz.prog.wantsStandIn 22=false by kernel_rfl)
theorem card:Rows.FnWorldDoCardSaid :=
  Claim7.holds_tied_plain_at .later [] _ _ _ _ said (fun _ h=>by cases h) (by kernel_rfl) (fun _ h=>by cases h) fnWorldDo_row_tie rfl ⟨rfl,rfl⟩ (by kernel_rfl) rfl plain (by kernel_rfl)
end Go.Proofs.YtggifndkolojmaaGreatDoor.fnWorldDo
