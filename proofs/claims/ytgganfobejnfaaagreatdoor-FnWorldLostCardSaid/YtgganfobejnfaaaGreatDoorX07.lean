/- Part 7 of the proof: the walk over values, the plain model, contracts of the functions of the program. -/
import Derived.Test.YtgganfobejnfaaaGreatDoorX04
import Derived.Test.YtgganfobejnfaaaGreatDoorX05
import Derived.Test.YtgganfobejnfaaaGreatDoorX06
import Derived.Test.YtgganfobejnfaaaGreatDoorX03
set_option linter.all false
namespace Go.Proofs.YtgganfobejnfaaaGreatDoor.W
open Go Go.RowKit Go.Proofs Go.Proofs.YtgganfobejnfaaaGreatDoor.VL Go.Proofs.YtgganfobejnfaaaGreatDoor.M
attribute [local congr] optK_congr guardK_congr condK_congr runT_congr runD_congr wpI_congr CallV_congr LoopI_congr pureK_congr effK_congr calK_congr stepV_congr doV_congr exN_congr exB_congr retF_congr retQ_congr gK_congr condW_congr ldK_congr stoK_congr
attribute [local go_sem] argL_cons argL_nil argH_nil argH_cons chH_getH wpI_seq wpI_reg wpI_drw wpI_ret cond_k condW_t condW_f wpI_skip wpI_block wpI_exit wpI_loop exN_n exN_r exN_e exB_n exB_r exB_h exB_m runT_k kT_e runT_nil runD_k kD_e runD_nil step_u step_k gK_t gK_f do_mv do_bino bo_add bo_sub bo_mul bo_subu bo_quo bo_rem bo_xor bo_eql bo_neq bo_lss bo_leq bo_gtr bo_geq bo_cat bo_eqs bo_nes do_pick do_call do_cal calK_f do_box do_alloc do_ldk ldK_s do_stok stoK_s do_fad do_nilc do_not do_neg do_len do_lens do_ext do_eqs do_beq do_isn do_cvi do_sls do_idx do_mn do_mx do_build do_mkf do_s2b do_b2s do_slv do_iad do_bsl do_mks do_app ev_t ev_c app_some app_none
attribute [local go_sem] List.nil_append List.cons_append List.append_nil getL_hit getL_miss getH_nil getH_hit getH_miss nm_eq ne_eq Nat.reduceEqDiff not_false_eq_true Nat.reduceAdd Nat.add_zero Nat.zero_add if_true if_false ite_true ite_false pureK_s effK_s optK_s gdV_t gdV_f gdV_s pick_b ge_iff_le gt_iff_lt cond_true cond_false fresh_k cells_agg cells_int cells_bool cells_str cells_own cells_sl cells_nils ld_pv ld_pa ld_ip ldVar_t ldVar_f ldArr_t ldArr_f ldRow_t ldRow_f ldA_s ld1_s fad_pv fad_pa fad_ip nilc_pv nilc_pa nilc_ip not_b neg_i cvi_i ext_t retF_n retF_r
attribute [local go_sem] resV_k rvs_nil rvs_t rvs_c fstO_s consO_s resK_s resL_1 resL_2 resL_3 resL_4  Option.some.injEq List.map_cons List.map_nil List.all_cons List.all_nil Bool.and_true Bool.and_self Bool.not_true Bool.not_false Option.map_some Option.map_none sls_s slsG_s loV_n loV_i hiV_n hiV_i idx_s mn_i mx_i s2b_s b2s_s bytO_s bytes_nil bytes_cons conB_s slv_sl slv_own slv_nils slvG_s slvN_s slvO_s iad_sl iadG_map take_map drop_map List.length_map iad_own iad_view iadO_a iadW_a mks_i rowO_nils rowO_sl rowO_own rowA_a eq_self appG_nils appG_own appO_a guardP_T mapA_s bld_nil mkf_nil bldF_e fill_nil fill_cons mkf_e lens_s len_nils len_sl len_own len_view isn_nile isn_erre List.getElem?_cons_zero List.getElem?_cons_succ List.length_cons List.length_nil decide_true decide_false Int.toNat_natCast Int.cast_ofNat_Int Int.reduceLT Int.reduceLE Int.reduceEq Int.reduceAdd Int.reduceSub Int.reduceMul Int.reduceNeg Int.reduceToNat List.getD_cons_zero List.getD_cons_succ not_true_eq_false not_false_eq_true Bool.false_eq_true Bool.true_eq_false reduceCtorEq
attribute [local go_sem] E.row Pc.row Pair.row Part.row Strm.row Flw.row Pk.row Door.row Conv.row World.row Ev.row rdV E.eta Pc.eta Pair.eta Part.eta Strm.eta Pk.eta Flw.eta Conv.eta Door.eta World.eta Ev.eta
attribute [local go_sem] sub_ok st_pv st_pa stVar_v stArr_a Nat.le_refl List.drop_zero List.drop_succ_cons List.take_succ_cons List.take_zero setR Nat.reduceLeDiff
attribute [local go_sem] wk_bot wk2_bot wk1_bot wk_undef wk_tup_e wk2_agg_e wk_agg_e wk1_fn_e wk2_fn_e wk_fn_e wkl_nil wkl_cons wkh_var_e wkh_arr_e wkh_fresh_e wkh_dead_v wkh_dead_a wkh_dead_d wk0_undef wk0_int wk0_bool wk0_str wk0_nils wk0_nils_sl wk0_nilp wk0_nile wk0_erre wk0_sl wk0_iptr wk0_own wk0_view wk0_pv wk0_pa fzA_a fzW_a fzP_v wk0_own_sl wk0_view_sl wk0_pv_iptr WkS_nil WkS_cons WkN_nil WkN_cons nonB_nil nonB_cons getN_nil getN_hit getN_miss pinOk_0 pinOk_s and_true true_and and_self
attribute [local go_sem] bot_int one_int unt_int clo_int bot_bool one_bool unt_bool clo_bool bot_str one_str unt_str clo_str bot_nils one_nils unt_nils clo_nils bot_nilp one_nilp unt_nilp clo_nilp bot_nile one_nile unt_nile clo_nile bot_erre one_erre unt_erre clo_erre bot_raw one_raw unt_raw clo_raw bot_sl one_sl unt_sl clo_sl bot_own one_own unt_own clo_own bot_view one_view unt_view clo_view bot_pv one_pv unt_pv clo_pv bot_pa one_pa unt_pa clo_pa bot_iptr one_iptr unt_iptr clo_iptr unt_agg unt_fn one_fn
attribute [local go_sem] rn_tup rn_agg rn2_agg rn_fn rn2_fn rnfn1 rn_bot rn2_bot rn1_bot rn0_int rn0_bool rn0_str rn0_nils rn0_nilp rn0_nile rn0_erre rn0_sl rn0_iptr rn0_own rn0_view rn0_pv rn0_pa hrn_var hrn_arr hrn_dead outU_nil outU_cons deads_nil deads_cons bk_ge bk_lt nsF_0 nsF_s chH_0 chH_s chH_n newN_e andB_s eqR_nil eqR_i eqR_b eqR_s mapX_f mapX_t eqs_a beq_f beq_t live_arr live_var nsl_nil nsl_cons Nat.reduceMul Nat.reduceLT Nat.zero_le Nat.not_lt_zero
attribute [local go_sem] mV lD lA fD bN eX oP nP sR i0 s0
theorem wi_wb {w:M.World} (h:WI w):WB w:=by
  obtain ⟨hdm,hdf,_⟩:=doorOk_iff.1 h.door
  have:=(mapOk_ports hdm).2
  have:=h.cl
  have:=h.nl
  exact ⟨by omega,by omega,by omega,by omega,copyC h.door⟩
theorem zeroWB:WB .zero:=⟨by simp [World.zero],by simp [World.zero],by simp [World.zero,Door.zero],by simp [World.zero,Door.zero],by simp [World.zero,Door.zero]⟩
theorem play_wi {cs:List Conv} {es:List Ev} {w:M.World} (h:worldPlay cs es=some w):WI w:=by
  obtain ⟨w0,h0,_,rfl⟩:=worldPlay_is h
  exact play_ok (worldNew_ok h0) es
theorem bff:(false == false)=true:=rfl
theorem btt:(true == true)=true:=rfl
theorem zero_e:World.zero=⟨[],⟨[],[]⟩,[]⟩:=rfl
def ic96:IC:=sR [oP 4 (.box 40 (.t 1))] (sR [oP 6 (.mv (.c i0))] (.block 0 (.loop (.seq (sR [mV 7 2,mV 8 7,⟨some 9,some (8,true),.mv (.t 6)⟩,⟨some 10,some (8,true),.bin .lss (.t 9) (.c (.int .i64 4))⟩,oP 11 (.pick (.t 8) (.t 10) (.c (.bool false)))] (.cond (.t 11) .skip (.exit 0))) (.seq (.block 1 (.reg [mV 15 0,lA 16 7 4,oP 17 (.call 61 [.t 15,.t 16]),mV 14 17,eX 18 14 0,eX 19 14 1,nP (.sto 7 (.t 4) (.t 18)),mV 2 19])) (.reg [mV 12 6,oP 13 (.bin .add (.t 12) (.c (.int .i64 1))),mV 6 13]))))))
theorem dg96:Dg Tryz.prog 96 Tryz.f96 ic96 []:=⟨Tryz.func96,by kernel_rfl,by kernel_rfl⟩
theorem c96 (w:M.World) (p:Pk) (ok:Bool) (hw:WI w) (hp:ok=true→NetP w.convs p):FnP Tryz.prog G 96 1 [.var 33 [.own 2 w.convs.length,.sl 3 (w.door.map.map Pair.row),.own 1 w.door.flows.length,.own 3 w.nets.length],.arr 46 8 (w.door.flows.map Flw.row),.arr 56 10 (w.convs.map Conv.row),.arr 40 7 (w.nets.map Pk.row)] [.pv 0 0,.agg [.int .i64 p.kind,.int .i64 p.frm.a,.int .i64 p.frm.p,.int .i64 p.to.a,.int .i64 p.to.p,.int .i64 p.at_,.str p.text],.bool ok] (fun r o=>r=.tup []∧∃ v,v=through 4 w (bif ok then some p else none)∧o=[.var 33 [.own 2 v.convs.length,.sl 3 (v.door.map.map Pair.row),.own 1 v.door.flows.length,.own 3 v.nets.length],.arr 46 8 (v.door.flows.map Flw.row),.arr 56 10 (v.convs.map Conv.row),.arr 40 7 (v.nets.map Pk.row)]):=by
  refine mP dg96 Tryz.ntmps96 ⟨_,_,rfl,_,rfl,rfl⟩ ?_
  have fin:∀ l mm (v:M.World),v=through 4 w (bif ok then some p else none)→getH mm 0=.var 33 [.own 2 v.convs.length,.sl 3 (v.door.map.map Pair.row),.own 1 v.door.flows.length,.own 3 v.nets.length]→getH mm 1=.arr 46 8 (v.door.flows.map Flw.row)→getH mm 2=.arr 56 10 (v.convs.map Conv.row)→getH mm 3=.arr 40 7 (v.nets.map Pk.row) →
      retQ [] 1 (fun r o=>r=.tup []∧∃ v,v=through 4 w (bif ok then some p else none)∧o=[.var 33 [.own 2 v.convs.length,.sl 3 (v.door.map.map Pair.row),.own 1 v.door.flows.length,.own 3 v.nets.length],.arr 46 8 (v.door.flows.map Flw.row),.arr 56 10 (v.convs.map Conv.row),.arr 40 7 (v.nets.map Pk.row)]) .normal ⟨getL l,getH mm⟩:=fun l mm v h0 h1 h2 h3 h4=>by
    show retQ _ _ _ .ret _
    refine retN (.tup []) [.var 33 [.own 2 v.convs.length,.sl 3 (v.door.map.map Pair.row),.own 1 v.door.flows.length,.own 3 v.nets.length],.arr 46 8 (v.door.flows.map Flw.row),.arr 56 10 (v.convs.map Conv.row),.arr 40 7 (v.nets.map Pk.row)] [] (by simp only [go_sem,resL_0]) ⟨rfl,v,h0,rfl⟩ ?_ (by simp [argH,getN]) (by simp only [go_sem])
    simp only [go_sem,h1,h2,h3,h4]
  simp only [ic96,go_sem]
  refine loopN (fun a:Nat × M.World × Pk × Bool=>⟨getL [(0,.pv 0 0),(2,.bool a.2.2.2),(4,.pv 1004 0),(6,.int .i64 (a.1:Int))],getH [(0,.var 33 [.own 2 a.2.1.convs.length,.sl 3 (a.2.1.door.map.map Pair.row),.own 1 a.2.1.door.flows.length,.own 3 a.2.1.nets.length]),(1,.arr 46 8 (a.2.1.door.flows.map Flw.row)),(2,.arr 56 10 (a.2.1.convs.map Conv.row)),(3,.arr 40 7 (a.2.1.nets.map Pk.row)),(1004,.var 40 (Pk.row a.2.2.1))]⟩)
    (fun a=>4 - a.1) (fun a=>a.1≤4∧WI a.2.1∧(a.2.2.2=true→NetP a.2.1.convs a.2.2.1)∧through 4 w (bif ok then some p else none)=through (4 - a.1) a.2.1 (bif a.2.2.2 then some a.2.2.1 else none)) (0,w,p,ok) (leQ []) ⟨Nat.zero_le _,hw,hp,rfl⟩ ?_
  intro ⟨n,v,q,b⟩ ⟨hn,hv,hq,he⟩
  simp only at hn hv hq he
  simp only [go_sem]
  cases b
  · simp only [go_sem]
    rw [cond_false,through_none] at he
    exact fin _ _ v he.symm (by simp only [go_sem]) (by simp only [go_sem]) (by simp only [go_sem]) (by simp only [go_sem])
  by_cases h:(n:Int)<4
  · have hq:=hq rfl
    obtain ⟨k1,k2⟩:=carry_ok hv hq
    have e4:4 - n=(4 - (n+1))+1:=by omega
    rw [cond_true,e4] at he
    simp only [through] at he
    simp only [eq_true h,go_sem]
    refine callN (c61 v q hv hq.pk) [0,1,2,3] [] true 17 4 (by simp only [go_sem];first|done|simp) (by simp only [go_sem];first|done|simp) (by simp) (by simp) (by simp) ?_ ?_ ?_
    · rintro res out ⟨q,rfl,hq,rfl⟩
      exact ⟨by simp,by simp,.inl rfl,fun i hi=>by obtain rfl:i=0:=(by omega);simp [chH,stepOk]⟩
    · intro i hi
      rcases (show i=0∨i=1∨i=2∨i=3 by omega) with rfl|rfl|rfl|rfl<;>simp only [go_sem]
    rintro res out ⟨q',rfl,hq',rfl⟩
    generalize carry v q=x at *
    obtain ⟨v',o⟩:=x
    simp only at k1 k2 he hq'
    have ho:(bif o.isSome then some q' else none)=o:=by
      cases o with
      | none=>rfl
      | some y=>rw [hq' y rfl];rfl
    simp only [go_sem]
    with_reducible repeat' (first|rw [i64w (by omega)];try simp only [go_sem]|refine br ?_ ?_<;>intro h e<;>(try simp only [e,go_sem])<;>clear e|refine sd ?_<;>try simp only [go_sem]|fail)
    exact ⟨(n+1,v',q',o.isSome),by simp only;omega,⟨by simp only;omega,k1,fun hb=>k2 q' (by rw [← ho];simp only at hb;rw [hb];rfl),by simp only;rw [ho];exact he⟩,(leQ [(1,101701),(2,101702),(3,101703)])⟩
  · simp only [eq_false h,go_sem]
    have e0:4 - n=0:=by omega
    rw [e0] at he
    exact fin _ _ v he.symm (by simp only [go_sem]) (by simp only [go_sem]) (by simp only [go_sem]) (by simp only [go_sem])
theorem range_at {n k:Nat} (h:k<n):(List.range n).drop k=k :: (List.range n).drop (k+1):=by
  have:=List.drop_eq_getElem_cons (l:=List.range n) (i:=k) (by simpa using h)
  rw [this];simp
theorem sayRound_e {w:M.World} {i:Nat} {c c1:Conv} (h:w.convs[i]?=some c) {o1 o2:Option Pk} {w1:M.World} (h1:say c true 0 c.upAck 24=o1) (hw:w1=through 4 w o1) (hc:w1.convs[i]?=some c1) (h2:say c1 false (portOf w1.door.map c1.ins) c1.downAck 24=o2):sayRound w i=through 4 w1 o2:=by
  unfold sayRound
  rw [h]
  simp only
  rw [h1,← hw,hc]
  simp only
  rw [h2]
def ic55:IC:=sR [mV 6 0,oP 7 (.nilc (.t 6)),fD 8 3 7,lD 9 1 8,mV 2 9] (sR [mV 10 0,oP 11 (.nilc (.t 10)),fD 12 3 11,nP (.sto 1 (.t 12) (.c .nils))] (.seq (sR [mV 13 2,oP 14 (.len (.t 13)),oP 15 (.mv (.c i0))] (.block 0 (.loop (sR [bN 16 .lss 15 14] (.seq (.cond (.t 16) .skip (.exit 0)) (.seq (.block 1 (sR [oP 17 (.iad 7 (.t 13) (.t 15)),lA 18 7 17,oP 4 (.alloc 40 [i0,i0,i0,i0,i0,i0,s0]),nP (.sto 7 (.t 4) (.t 18))] (.reg [mV 19 0,lA 20 7 4,oP 21 (.call 96 [.t 19,.t 20,.c (.bool true)])]))) (.reg [oP 22 (.bin .add (.t 15) (.c (.int .i64 1))),mV 15 22]))))))) (sR [mV 23 0,oP 24 (.nilc (.t 23)),fD 25 0 24,lD 26 1 25,oP 27 (.len (.t 26)),oP 28 (.mv (.c i0))] (.block 2 (.loop (sR [bN 29 .lss 28 27] (.seq (.cond (.t 29) .skip (.exit 2)) (.seq (.block 3 (sR [mV 30 28,mV 5 30] (.seq (.drw [0,0,2,6,14,0,62,126,0,256,768,1792,0,7936,16128,32512,65534,131070,131070,524287] [(0,mV 31 0),(1,mV 32 0),(2,oP 33 (.nilc (.t 32))),(3,fD 34 0 33),(4,lD 35 1 34),(5,mV 36 5),(6,oP 37 (.iad 10 (.t 35) (.t 36))),(7,lA 38 10 37),(8,mV 39 0),(9,oP 40 (.nilc (.t 39))),(10,fD 41 0 40),(11,lD 42 1 41),(12,mV 43 5),(13,oP 44 (.iad 10 (.t 42) (.t 43))),(14,fD 45 6 44),(15,lD 46 1 45),(16,oP 47 (.call 59 [.t 38,.c (.bool true),.c i0,.t 46,.c (.int .i64 24)])),(17,eX 48 47 0),(18,eX 49 47 1),(19,oP 50 (.call 96 [.t 31,.t 48,.t 49]))]) (.drw [0,0,2,6,14,0,62,126,0,0,768,0,2048,6144,14336,0,63488,129024,260096,524286,1048574,1048574,4194303] [(0,mV 51 0),(1,mV 52 0),(2,oP 53 (.nilc (.t 52))),(3,fD 54 0 53),(4,lD 55 1 54),(5,mV 56 5),(6,oP 57 (.iad 10 (.t 55) (.t 56))),(7,lA 58 10 57),(8,mV 59 0),(9,mV 60 5),(10,oP 61 (.call 60 [.t 59,.t 60])),(11,mV 62 0),(12,oP 63 (.nilc (.t 62))),(13,fD 64 0 63),(14,lD 65 1 64),(15,mV 66 5),(16,oP 67 (.iad 10 (.t 65) (.t 66))),(17,fD 68 7 67),(18,lD 69 1 68),(19,oP 70 (.call 59 [.t 58,.c (.bool false),.t 61,.t 69,.c (.int .i64 24)])),(20,eX 71 70 0),(21,eX 72 70 1),(22,oP 73 (.call 96 [.t 51,.t 71,.t 72]))])))) (.reg [oP 74 (.bin .add (.t 28) (.c (.int .i64 1))),mV 28 74])))))))))
theorem dg55:Dg Tryz.prog 55 Tryz.f55 ic55 []:=⟨Tryz.func55,by kernel_rfl,by kernel_rfl⟩
set_option maxHeartbeats 1000000 in
theorem c55 (w:M.World) (hw:WI w):FnP Tryz.prog G 55 1 [.var 33 [.own 2 w.convs.length,.sl 3 (w.door.map.map Pair.row),.own 1 w.door.flows.length,.own 3 w.nets.length],.arr 46 8 (w.door.flows.map Flw.row),.arr 56 10 (w.convs.map Conv.row),.arr 40 7 (w.nets.map Pk.row)] [.pv 0 0] (fun r o=>r=.tup []∧∃ v,v=M.round w∧o=[.var 33 [.own 2 v.convs.length,.sl 3 (v.door.map.map Pair.row),.own 1 v.door.flows.length,.own 3 v.nets.length],.arr 46 8 (v.door.flows.map Flw.row),.arr 56 10 (v.convs.map Conv.row),.arr 40 7 (v.nets.map Pk.row)]):=by
  refine mP dg55 Tryz.ntmps55 ⟨_,_,rfl,_,rfl,rfl⟩ ?_
  have hnl:=hw.nl
  have hcl:=hw.cl
  have opt_i:∀ o:Option Pk,(bif o.isSome then some (o.getD .zero) else none)=o:=fun o=>by cases o<;>rfl
  simp only [ic55,go_sem]
  with_reducible repeat' (first|refine br ?_ ?_<;>intro h e<;>(try simp only [e,go_sem])<;>clear e|rw [i64w (by omega)]|refine sd ?_<;>try simp only [go_sem]|fail)
  refine loopN (fun a:Nat × M.World=>⟨getL [(0,.pv 0 0),(13,.own 3 w.nets.length),(14,.int .i64 w.nets.length),(15,.int .i64 (a.1:Int))],getH [(0,.var 33 [.own 2 a.2.convs.length,.sl 3 (a.2.door.map.map Pair.row),.own 1 a.2.door.flows.length,.own 200003 a.2.nets.length]),(1,.arr 46 8 (a.2.door.flows.map Flw.row)),(2,.arr 56 10 (a.2.convs.map Conv.row)),(200003,.arr 40 7 (a.2.nets.map Pk.row)),(3,.arr 40 7 (w.nets.map Pk.row))]⟩)
    (fun a=>w.nets.length - a.1) (fun a=>a.1≤w.nets.length∧WI a.2∧Ext w a.2∧w.nets.foldl (fun w p=>through 4 w (some p)) { w with nets:=[] }=(w.nets.drop a.1).foldl (fun w p=>through 4 w (some p)) a.2) (0,{ w with nets:=[] })
    (St.le_trans (nilOwn (row:=[.own 2 w.convs.length,.sl 3 (w.door.map.map Pair.row),.own 1 w.door.flows.length,.nils]) 0 200003 40 7 33 3 (by simp only [go_sem]) (by decide) (by simp only [go_sem]) rfl) (leN [] (by simp only [go_sem]) (by simp only [go_sem,List.set_cons_succ,List.set_cons_zero]) (by simp [getN]) (by simp only [go_sem]))) ⟨Nat.zero_le _,⟨hw.cv,hw.cl,hw.door,hw.fl,Nat.zero_le _,fun p hp=>by cases hp⟩,.same rfl rfl,by simp⟩ ?_
  intro ⟨k,v⟩ ⟨hk,hv,hx,he⟩
  simp only at hk hv hx he
  simp only [go_sem]
  by_cases h:(k:Int)<w.nets.length
  · have hil:k<w.nets.length:=by omega
    have hg:w.nets.getD k default=w.nets[k]:=by simp [List.getD,hil]
    rw [List.drop_eq_getElem_cons hil,List.foldl_cons] at he
    have hnp:=(hw.net _ (List.getElem_mem hil)).ext hx
    generalize w.nets[k]=p at *
    simp only [eq_true h,go_sem]
    with_reducible repeat' (first|rw [i64w (by omega)];try simp only [go_sem,getD_mp hil,hg]|refine br ?_ ?_<;>intro h e<;>(try simp only [e,go_sem,getD_mp hil,hg])<;>clear e|refine sd ?_<;>try simp only [go_sem,getD_mp hil,hg]|fail)
    refine callN (c96 v p true hv (fun _=>hnp)) [0,1,2,200003] [] true 21 4 (by simp only [go_sem];first|done|simp) (by simp only [go_sem];first|done|simp) (by simp) (by simp) (by simp) ?_ ?_ ?_
    · rintro _ _ ⟨rfl,v',hv',rfl⟩
      exact ⟨by simp,by simp,.inl rfl,fun i hi=>by obtain rfl:i=0:=(by omega);simp [chH,stepOk]⟩
    · intro i hi
      rcases (show i=0∨i=1∨i=2∨i=3 by omega) with rfl|rfl|rfl|rfl<;>simp only [go_sem]
    rintro _ _ ⟨rfl,v',hv',rfl⟩
    simp only [go_sem]
    with_reducible repeat' (first|rw [i64w (by omega)];try simp only [go_sem]|refine br ?_ ?_<;>intro h e<;>(try simp only [e,go_sem])<;>clear e|refine sd ?_<;>try simp only [go_sem]|fail)
    rw [cond_true] at hv'
    exact ⟨(k+1,v'),by simp only;omega,⟨by simp only;omega,by rw [hv'];exact hv.through 4 (fun q hq=>by cases hq;exact hnp),by rw [hv'];exact hx.trans (through_ext 4 _ _),by rw [hv'];exact he⟩,(leQ [(1,102101),(2,102102),(200003,102103)])⟩
  simp only [eq_false h,go_sem]
  obtain rfl:k=w.nets.length:=by omega
  rw [List.drop_length,List.foldl_nil] at he
  have hrd:M.round w=(List.range v.convs.length).foldl sayRound v:=by rw [← he];rfl
  clear he hx h
  with_reducible repeat' (first|refine br ?_ ?_<;>intro h e<;>(try simp only [e,go_sem])<;>clear e|rw [i64w (by omega)]|refine sd ?_<;>try simp only [go_sem]|fail)
  have hvl:=hv.cl
  generalize hn:v.convs.length=n at *
  refine loopN (fun a:Nat × M.World=>⟨getL [(0,.pv 0 0),(27,.int .i64 n),(28,.int .i64 (a.1:Int))],getH [(0,.var 33 [.own 2 a.2.convs.length,.sl 3 (a.2.door.map.map Pair.row),.own 1 a.2.door.flows.length,.own 200003 a.2.nets.length]),(1,.arr 46 8 (a.2.door.flows.map Flw.row)),(2,.arr 56 10 (a.2.convs.map Conv.row)),(200003,.arr 40 7 (a.2.nets.map Pk.row))]⟩)
    (fun a=>n - a.1) (fun a=>a.1≤n∧WI a.2∧a.2.convs.length=n∧M.round w=((List.range n).drop a.1).foldl sayRound a.2) (0,v) (leQ []) ⟨Nat.zero_le _,hv,hn,by simpa using hrd⟩ ?_
  clear hrd hv hn v
  intro ⟨k,v⟩ ⟨hk,hv,hn,he⟩
  simp only at hk hv hn he
  simp only [go_sem]
  by_cases h:(k:Int)<n
  · have hil:k<v.convs.length:=by omega
    have hg:v.convs.getD k default=v.convs[k]:=by simp [List.getD,hil]
    have hg2:=List.getElem?_eq_getElem hil
    have hcb:=convOk_B (hv.cv _ (List.getElem_mem hil))
    have hcm:=List.getElem_mem hil
    rw [range_at (by omega),List.foldl_cons] at he
    generalize v.convs[k]=c at *
    have fs:=c59 c true 0 c.upAck 24 (by have:=hcb.up;omega) (by have:=hcb.down;omega)
    have hsn:∀ p,say c true 0 c.upAck 24=some p→NetP v.convs p:=fun p hp=>say_net hcm (hv.cv c hcm) hp
    simp only [eq_true h,go_sem]
    with_reducible repeat' (first|rw [i64w (by omega)];try simp only [go_sem,getD_mp hil,hg]|refine br ?_ ?_<;>intro h e<;>(try simp only [e,go_sem,getD_mp hil,hg])<;>clear e|refine sd ?_<;>try simp only [go_sem,getD_mp hil,hg]|(first|refine cr (fs ..) ?_)<;>try simp only [go_sem,getD_mp hil,hg]|fail)
    generalize ho:say c true 0 c.upAck 24=o at *
    refine callN (c96 v (o.getD .zero) o.isSome hv (fun hb=>hsn _ (by cases o with|none=>cases hb|some y=>rfl))) [0,1,2,200003] [] true 50 4 (by simp only [go_sem];first|done|simp) (by simp only [go_sem];first|done|simp) (by simp) (by simp) (by simp) ?_ ?_ ?_
    · rintro _ _ ⟨rfl,v',hv',rfl⟩
      exact ⟨by simp,by simp,.inl rfl,fun i hi=>by obtain rfl:i=0:=(by omega);simp [chH,stepOk]⟩
    · intro i hi
      rcases (show i=0∨i=1∨i=2∨i=3 by omega) with rfl|rfl|rfl|rfl<;>simp only [go_sem]
    rintro _ _ ⟨rfl,v1,hv1,rfl⟩
    rw [opt_i] at hv1
    have hw1:WI v1:=by rw [hv1];exact hv.through 4 hsn
    have hx1:Ext v v1:=by rw [hv1];exact through_ext 4 _ _
    have hil1:k<v1.convs.length:=by rw [hx1.len];exact hil
    have hg1:v1.convs.getD k default=v1.convs[k]:=by simp [List.getD,hil1]
    have hg3:=List.getElem?_eq_getElem hil1
    have hcb1:=convOk_B (hw1.cv _ (List.getElem_mem hil1))
    have hcm1:=List.getElem_mem hil1
    have hml1:=(mapOk_ports (doorOk_iff.1 hw1.door).1).2
    have fp:=c60 v1 k hil1 (by omega)
    rw [hg1] at fp
    generalize v1.convs[k]=c1 at *
    have fs1:=c59 c1 false (portOf v1.door.map c1.ins) c1.downAck 24 (by have:=hcb1.up;omega) (by have:=hcb1.down;omega)
    have hsn1:∀ p,say c1 false (portOf v1.door.map c1.ins) c1.downAck 24=some p→NetP v1.convs p:=fun p hp=>say_net hcm1 (hw1.cv c1 hcm1) hp
    simp only [go_sem]
    with_reducible repeat' (first|rw [i64w (by omega)];try simp only [go_sem,getD_mp hil1,hg1]|refine br ?_ ?_<;>intro h e<;>(try simp only [e,go_sem,getD_mp hil1,hg1])<;>clear e|refine sd ?_<;>try simp only [go_sem,getD_mp hil1,hg1]|fail)
    refine callRd fp [0,105001,105002,105003] 61 4 (by simp only [go_sem];first|done|simp) (by simp only [go_sem];first|done|simp) (by simp) (by simp) ?_ ?_ ?_ ?_
    · rintro _ _ ⟨rfl,rfl⟩
      exact ⟨by simp,by simp,fun i hi=>by rcases (show i=0∨i=1∨i=2∨i=3 by omega) with rfl|rfl|rfl|rfl<;>simp [chH,stepOk]⟩
    · intro i hi
      rcases (show i=0∨i=1∨i=2∨i=3 by omega) with rfl|rfl|rfl|rfl<;>simp only [go_sem]
    · rintro _ _ ⟨rfl,rfl⟩ x hx
      simp only [go_sem,List.drop_succ_cons,List.drop_nil,List.append_nil,List.mem_cons,List.not_mem_nil,or_false] at hx
      rcases hx with rfl|rfl|rfl|rfl<;>simp only [go_sem]
    rintro _ _ ⟨rfl,rfl⟩
    simp only [go_sem]
    with_reducible repeat' (first|rw [i64w (by omega)];try simp only [go_sem,getD_mp hil1,hg1]|refine br ?_ ?_<;>intro h e<;>(try simp only [e,go_sem,getD_mp hil1,hg1])<;>clear e|refine sd ?_<;>try simp only [go_sem,getD_mp hil1,hg1]|(first|refine cr (fs1 ..) ?_)<;>try simp only [go_sem,getD_mp hil1,hg1]|fail)
    generalize ho1:say c1 false (portOf v1.door.map c1.ins) c1.downAck 24=o1 at *
    have hse:=sayRound_e hg2 ho hv1 hg3 ho1
    refine callN (c96 v1 (o1.getD .zero) o1.isSome hw1 (fun hb=>hsn1 _ (by cases o1 with|none=>cases hb|some y=>rfl))) [0,105001,105002,105003] [] true 73 4 (by simp only [go_sem];first|done|simp) (by simp only [go_sem];first|done|simp) (by simp) (by simp) (by simp) ?_ ?_ ?_
    · rintro _ _ ⟨rfl,v',hv',rfl⟩
      exact ⟨by simp,by simp,.inl rfl,fun i hi=>by obtain rfl:i=0:=(by omega);simp [chH,stepOk]⟩
    · intro i hi
      rcases (show i=0∨i=1∨i=2∨i=3 by omega) with rfl|rfl|rfl|rfl<;>simp only [go_sem]
    rintro _ _ ⟨rfl,v2,hv2,rfl⟩
    rw [opt_i] at hv2
    simp only [go_sem]
    with_reducible repeat' (first|rw [i64w (by omega)];try simp only [go_sem]|refine br ?_ ?_<;>intro h e<;>(try simp only [e,go_sem])<;>clear e|refine sd ?_<;>try simp only [go_sem]|fail)
    rw [hse,← hv2] at he
    exact ⟨(k+1,v2),by simp only;omega,⟨by simp only;omega,by rw [hv2];exact hw1.through 4 hsn1,by rw [hv2];simp only;rw [(through_ext 4 v1 o1).len,hx1.len,hn],he⟩,(leQ [(1,107301),(2,107302),(200003,107303)])⟩
  · simp only [eq_false h,go_sem]
    obtain rfl:k=n:=by omega
    rw [show (List.range k).drop k=[] by simp,List.foldl_nil] at he
    show retQ _ _ _ .ret _
    refine retN (.tup []) [.var 33 [.own 2 v.convs.length,.sl 3 (v.door.map.map Pair.row),.own 1 v.door.flows.length,.own 3 v.nets.length],.arr 46 8 (v.door.flows.map Flw.row),.arr 56 10 (v.convs.map Conv.row),.arr 40 7 (v.nets.map Pk.row)] [(3,200003)] (by simp only [go_sem,resL_0]) ⟨rfl,v,he.symm,rfl⟩ ?_ (by simp [argH,getN]) (by simp only [go_sem])
    simp only [go_sem]
def copyA (w:M.World) (r:V) (o:List Hs):Prop:=r=.agg [.own 0 w.convs.length,.sl 3 (w.door.map.map Pair.row),.own 1 w.door.flows.length,.own 2 w.nets.length] ∧
  o=[.arr 56 10 (w.convs.map Conv.row),.arr 46 8 (w.door.flows.map Flw.row),.arr 40 7 (w.nets.map Pk.row)]
theorem o38 (w:M.World) (hw:WI w):FnP Tryz.prog G 38 0 [] [.agg [.sl 10 (w.convs.map Conv.row),.sl 3 (w.door.map.map Pair.row),.sl 8 (w.door.flows.map Flw.row),.sl 7 (w.nets.map Pk.row)]] (copyA w):=by
  refine mP dg38 Tryz.ntmps38 ⟨_,_,rfl,rfl⟩ ?_
  have hnl:=hw.nl
  have hcl:=hw.cl
  obtain ⟨hdm,hdf,_⟩:=doorOk_iff.1 hw.door
  have hml:=(mapOk_ports hdm).2
  simp only [ic38,go_sem]
  with_reducible repeat' (first|refine br ?_ ?_<;>intro h e<;>(try simp only [e,go_sem])<;>clear e|rw [i64w (by omega)]|refine sd ?_<;>try simp only [go_sem]|fail)
  refine callO (c67 (w.convs.map Conv.row) (by simp;omega)) [] 5 1 (by simp only [go_sem];first|done|simp) (by simp) (by rintro _ _ ⟨rfl,rfl⟩;simp) (by intro i hi;obtain rfl:i=0:=(by omega);simp only [go_sem]) ?_
  rintro _ _ ⟨rfl,rfl⟩
  simp only [go_sem]
  with_reducible repeat' (first|refine br ?_ ?_<;>intro h e<;>(try simp only [e,go_sem])<;>clear e|rw [i64w (by omega)]|refine sd ?_<;>try simp only [go_sem]|fail)
  refine callU (o66 (w.convs.map Conv.row) w.convs.length (by simp)) [100500] [] 6 1 (by simp only [go_sem];first|done|simp) (by simp only [go_sem];first|done|simp) (by simp) (by simp) (by rintro _ _ ⟨rfl,rfl⟩;simp) (by intro i hi;obtain rfl:i=0:=(by omega);simp only [go_sem]) ?_
  rintro _ _ ⟨rfl,rfl⟩
  simp only [go_sem]
  with_reducible repeat' (first|refine br ?_ ?_<;>intro h e<;>(try simp only [e,go_sem])<;>clear e|rw [i64w (by omega)]|refine sd ?_<;>try simp only [go_sem]|fail)
  refine callO (k68 (w.door.map.map Pair.row) w.door.flows (by simp;omega) (by omega) (copyC hw.door)) [] 9 1 (by simp only [go_sem];first|done|simp) (by simp) (by rintro _ _ ⟨rfl,rfl⟩;simp) (by intro i hi;obtain rfl:i=0:=(by omega);simp only [go_sem]) ?_
  rintro _ _ ⟨rfl,rfl⟩
  simp only [go_sem]
  with_reducible repeat' (first|refine br ?_ ?_<;>intro h e<;>(try simp only [e,go_sem])<;>clear e|rw [i64w (by omega)]|refine sd ?_<;>try simp only [go_sem]|fail)
  refine callO (c70 (w.nets.map Pk.row) (by simp;omega)) [] 12 1 (by simp only [go_sem];first|done|simp) (by simp) (by rintro _ _ ⟨rfl,rfl⟩;simp) (by intro i hi;obtain rfl:i=0:=(by omega);simp only [go_sem]) ?_
  rintro _ _ ⟨rfl,rfl⟩
  simp only [go_sem]
  with_reducible repeat' (first|refine br ?_ ?_<;>intro h e<;>(try simp only [e,go_sem])<;>clear e|rw [i64w (by omega)]|refine sd ?_<;>try simp only [go_sem]|fail)
  refine callU (o69 (w.nets.map Pk.row) w.nets.length (by simp)) [101200] [] 13 1 (by simp only [go_sem];first|done|simp) (by simp only [go_sem];first|done|simp) (by simp) (by simp) (by rintro _ _ ⟨rfl,rfl⟩;simp) (by intro i hi;obtain rfl:i=0:=(by omega);simp only [go_sem]) ?_
  rintro _ _ ⟨rfl,rfl⟩
  simp only [go_sem]
  with_reducible repeat' (first|refine br ?_ ?_<;>intro h e<;>(try simp only [e,go_sem])<;>clear e|rw [i64w (by omega)]|refine sd ?_<;>try simp only [go_sem]|fail)
  exact retN (.agg [.own 0 w.convs.length,.sl 3 (w.door.map.map Pair.row),.own 1 w.door.flows.length,.own 2 w.nets.length]) [.arr 56 10 (w.convs.map Conv.row),.arr 46 8 (w.door.flows.map Flw.row),.arr 40 7 (w.nets.map Pk.row)] [(0,100600),(1,100900),(2,101300)] (by simp only [go_sem]) ⟨rfl,rfl⟩ (by simp only [go_sem]) (by simp [argH,getN]) (by simp only [go_sem])
def badP (p:Pk):Bool:=!pkOk p
def ic53:IC:=sR [oP 1 (.box 40 (.t 0)),oP 2 (.mv (.c (.bool false)))] (sR [lA 3 7 1,oP 4 (.call 23 [.t 3]),oP 5 (.un .not (.t 4)),mV 2 5] .ret)
theorem dg53:Dg Tryz.prog 53 Tryz.f53 ic53 [(.t 2)]:=⟨Tryz.func53,by kernel_rfl,by kernel_rfl⟩
theorem c53 (p:Pk) (h:p.text.length≤2000000):FnR Tryz.prog G 53 [.agg [.int .i64 p.kind,.int .i64 p.frm.a,.int .i64 p.frm.p,.int .i64 p.to.a,.int .i64 p.to.p,.int .i64 p.at_,.str p.text]] (.bool (badP p)):=by
  refine mF dg53 Tryz.ntmps53 ?_
  have f:=c23 p h
  unfold badP
  simp only [ic53,go_sem]
  with_reducible repeat' (first|refine br ?_ ?_<;>intro h e<;>(try simp only [e,go_sem])<;>clear e|rw [i64w (by omega)]|refine sd ?_<;>try simp only [go_sem]|(first|refine cr (f ..) ?_)<;>try simp only [go_sem]|fail)
def ic92:IC:=sR [oP 4 (.mv (.c i0))] (.seq (sR [mV 6 0,oP 7 (.len (.t 6)),oP 8 (.mv (.c i0))] (.block 0 (.loop (sR [bN 9 .lss 8 7] (.seq (.cond (.t 9) .skip (.exit 0)) (.seq (.block 1 (sR [mV 10 8,mV 5 10] (sR [mV 11 1,mV 12 0,mV 13 5,oP 14 (.iad 7 (.t 12) (.t 13)),lA 15 7 14,oP 16 (.cal (.t 11) [.t 15])] (.cond (.t 16) (sR [mV 17 5,mV 4 17] .ret) .skip)))) (.reg [oP 18 (.bin .add (.t 8) (.c (.int .i64 1))),mV 8 18]))))))) (sR [oP 4 (.mv (.c (.int .i64 (-1))))] .ret))
theorem dg92:Dg Tryz.prog 92 Tryz.f92 ic92 [(.t 4)]:=⟨Tryz.func92,by kernel_rfl,by kernel_rfl⟩
theorem c92 (l:List Pk) (hl:l.length≤2000000) (ht:∀ p∈l,p.text.length≤2000000):FnR Tryz.prog G 92 [.sl 7 (l.map Pk.row),.fn 53 []] (.int .i64 (ixI (l.findIdx? badP))):=by
  refine mF dg92 Tryz.ntmps92 ?_
  simp only [ic92,go_sem]
  refine loopN (fun k:Nat=>⟨getL [(0,.sl 7 (l.map Pk.row)),(1,.fn 53 []),(7,.int .i64 l.length),(8,.int .i64 (k:Int))],getH []⟩) (fun k=>l.length - k)
    (fun k=>k≤l.length∧(l.take k).any badP=false) 0 (leQ []) ⟨Nat.zero_le _,by simp⟩ ?_
  intro k ⟨hk,ha⟩
  simp only [go_sem]
  by_cases h:(k:Int)<l.length
  · have hil:k<l.length:=by omega
    have hg:l.getD k default=l[k]:=by simp [List.getD,hil]
    have hy:=findIdx_yes hil ha
    have hs:=any_step hil ha
    have f:=c53 l[k] (ht _ (List.getElem_mem hil))
    simp only [eq_true h,go_sem]
    refine effG (by omega) ?_
    simp only [hg,go_sem]
    refine callR f rfl rfl ?_
    simp only [go_sem]
    with_reducible repeat' (first|refine br ?_ ?_<;>intro h e<;>(try simp only [e,go_sem])<;>clear e|rw [i64w (by omega)]|refine sd ?_<;>try simp only [go_sem]|fail)
    · rw [hy (by assumption)];rfl
    · exact ⟨k+1,by omega,⟨by omega,hs (by assumption)⟩,(leQ [])⟩
  · simp only [eq_false h,go_sem]
    have:k=l.length:=by omega
    subst this
    rw [List.take_length] at ha
    rw [findIdx_no ha];rfl
def ic52:IC:=sR [oP 4 (.mv (.c (.bool false)))] (sR [mV 5 0,mV 6 1,oP 7 (.call 92 [.t 5,.t 6]),oP 8 (.bin .geq (.t 7) (.c i0)),mV 4 8] .ret)
theorem dg52:Dg Tryz.prog 52 Tryz.f52 ic52 [(.t 4)]:=⟨Tryz.func52,by kernel_rfl,by kernel_rfl⟩
theorem c52 (l:List Pk) (hl:l.length≤2000000) (ht:∀ p∈l,p.text.length≤2000000):FnR Tryz.prog G 52 [.sl 7 (l.map Pk.row),.fn 53 []] (.bool (l.any badP)):=by
  refine mF dg52 Tryz.ntmps52 ?_
  simp only [ic52,go_sem]
  refine callR (c92 l hl ht) rfl rfl ?_
  simp only [go_sem,ixI_any]
theorem any_bad (l:List Pk):(!l.any badP)=l.all pkOk:=by
  induction l with
  | nil=>rfl
  | cons p l ih=>simp [badP,← ih]
structure WS (w:M.World):Prop where
  cl:w.convs.length≤2000000
  cb:∀ c∈w.convs,(c.up.length≤2000000∧c.down.length≤2000000)∧c.upGot.length≤2000000∧c.downGot.length≤2000000
  db:DB w.door
  nl:w.nets.length≤2000000
  nt:∀ p∈w.nets,p.text.length≤2000000
def ic29:IC:=sR [oP 1 (.box 33 (.t 0)),oP 2 (.mv (.c (.bool false)))] (sR [fD 3 0 1,lD 4 1 3,oP 5 (.call 50 [.t 4]),mV 6 5,⟨some 7,some (6,true),.fad 1 (.t 1)⟩,⟨some 8,some (6,true),.ld 2 true (.t 7)⟩,⟨some 9,some (6,true),.call 51 [.t 8]⟩,oP 10 (.pick (.t 6) (.t 9) (.c (.bool false))),mV 11 10,⟨some 12,some (11,true),.fad 3 (.t 1)⟩,⟨some 13,some (11,true),.ld 1 false (.t 12)⟩,⟨some 14,some (11,true),.len (.t 13)⟩,⟨some 15,some (11,true),.bin .leq (.t 14) (.c (.int .i64 10))⟩,oP 16 (.pick (.t 11) (.t 15) (.c (.bool false))),mV 17 16,⟨some 18,some (17,true),.fad 3 (.t 1)⟩,⟨some 19,some (17,true),.ld 1 false (.t 18)⟩,⟨some 20,some (17,true),.call 52 [.t 19,.c (.fn 53 [])]⟩,⟨some 21,some (17,true),.un .not (.t 20)⟩,oP 22 (.pick (.t 17) (.t 21) (.c (.bool false))),mV 2 22] .ret)
theorem dg29:Dg Tryz.prog 29 Tryz.f29 ic29 [(.t 2)]:=⟨Tryz.func29,by kernel_rfl,by kernel_rfl⟩
theorem c29 (w:M.World) (h:WS w):FnR Tryz.prog G 29 [.agg [.sl 10 (w.convs.map Conv.row),.sl 3 (w.door.map.map Pair.row),.sl 8 (w.door.flows.map Flw.row),.sl 7 (w.nets.map Pk.row)]] (.bool (worldOk w)):=by
  refine mF dg29 Tryz.ntmps29 ?_
  have f1:=c50 w.convs h.cl h.cb
  have f2:=c51 w.door h.db
  have f3:=c52 w.nets h.nl h.nt
  have e:worldOk w=(together w.convs && doorOk w.door && decide (w.nets.length≤10) && !w.nets.any badP):=by rw [any_bad];rfl
  rw [e]
  generalize together w.convs=b1 at *
  generalize doorOk w.door=b2 at *
  generalize w.nets.any badP=b3 at *
  simp only [ic29,go_sem]
  with_reducible repeat' (first|refine br ?_ ?_<;>intro h e<;>(try simp only [e,go_sem])<;>clear e|rw [i64w (by omega)]|refine sd ?_<;>try simp only [go_sem]|(first|refine cr (f1 ..) ?_|refine cr (f2 ..) ?_|refine cr (f3 ..) ?_)<;>try simp only [go_sem]|fail)
  all_goals first|done|(clear f1 f2 f3 e;simp_all;done)|(clear f1 f2 f3 e;simp_all;omega)|trace_state
theorem wi_ws {w:M.World} (h:WI w):WS w:=by
  obtain ⟨hdm,hdf,_⟩:=doorOk_iff.1 h.door
  have hm:=(mapOk_ports hdm).2
  have hcl:=h.cl
  have hnl:=h.nl
  refine ⟨by omega,fun c hc=>?_,⟨by omega,by omega,fun f hf=>?_⟩,by omega,fun p hp=>?_⟩
  · have:=convOk_B (h.cv c hc)
    have h1:=this.up;have h2:=this.down;have h3:=this.upGot;have h4:=this.downGot
    omega
  · obtain ⟨k,hk⟩:=List.mem_iff_getElem?.1 hf
    obtain ⟨_,_,h1,h2,_⟩:=flow_at h.door hk
    exact ⟨(strmOk_B h1).sb,(strmOk_B h2).sb⟩
  · have:=(h.net p hp).pk.len
    omega
def ic25:IC:=sR [oP 4 (.mv (.c (.bool false)))] (sR [mV 5 0,oP 6 (.lens (.t 5)),mV 7 1,oP 8 (.lens (.t 7)),bN 9 .leq 6 8,mV 10 9,⟨some 11,some (10,true),.mv (.t 1)⟩,⟨some 12,some (10,true),.mv (.t 0)⟩,⟨some 13,some (10,true),.lens (.t 12)⟩,⟨some 14,some (10,true),.sls (.t 11) none (some (.t 13))⟩,⟨some 15,some (10,true),.mv (.t 0)⟩,⟨some 16,some (10,true),.bin .eql (.t 14) (.t 15)⟩,oP 17 (.pick (.t 10) (.t 16) (.c (.bool false))),mV 4 17] .ret)
theorem dg25:Dg Tryz.prog 25 Tryz.f25 ic25 [(.t 4)]:=⟨Tryz.func25,by kernel_rfl,by kernel_rfl⟩
theorem c25 (a b:B) (h:a <+: b) (hb:b.length≤2000000):FnR Tryz.prog G 25 [.str a,.str b] (.bool true):=by
  refine mF dg25 Tryz.ntmps25 ?_
  have hl:=h.length_le
  have ht:b.take a.length=a:=(List.prefix_iff_eq_take.1 h).symm
  simp only [ic25,go_sem]
  with_reducible repeat' (first|refine br ?_ ?_<;>intro h e<;>(try simp only [e,go_sem,ht,Int.toNat_natCast,List.drop_zero])<;>clear e|rw [i64w (by omega)]|refine sd ?_<;>try simp only [go_sem,ht,Int.toNat_natCast,List.drop_zero]|fail)
  all_goals omega
def ic27:IC:=sR [oP 1 (.box 44 (.t 0)),oP 2 (.mv (.c s0))] (.seq (sR [lA 3 2 1,oP 4 (.call 47 [.t 3]),oP 5 (.un .not (.t 4))] (.cond (.t 5) (sR [oP 2 (.mv (.c s0))] .ret) .skip)) (sR [lA 6 2 1,oP 7 (.call 48 [.t 6]),mV 2 7] .ret))
theorem dg27:Dg Tryz.prog 27 Tryz.f27 ic27 [(.t 2)]:=⟨Tryz.func27,by kernel_rfl,by kernel_rfl⟩
theorem c27 (s:Strm) (h:strmOk s=true):FnR Tryz.prog G 27 [.agg [.str s.inn,.sl 2 (s.parts.map Part.row)]] (.str (sOut s)):=by
  refine mF dg27 Tryz.ntmps27 ?_
  have f1:=c47 s (strmOk_B h).sb
  have f2:=c48 s (strmOk_B h)
  rw [h] at f1
  simp only [ic27,go_sem]
  with_reducible repeat' (first|refine br ?_ ?_<;>intro h e<;>(try simp only [e,go_sem])<;>clear e|rw [i64w (by omega)]|refine sd ?_<;>try simp only [go_sem]|(first|refine cr (f1 ..) ?_|refine cr (f2 ..) ?_)<;>try simp only [go_sem]|fail)
def ic49:IC:=sR [oP 2 (.box 44 (.t 0)),oP 4 (.mv (.c i0))] (.seq (sR [lA 5 2 2,oP 6 (.call 47 [.t 5]),oP 7 (.un .not (.t 6)),mV 8 7,⟨some 9,some (8,false),.mv (.t 1)⟩,⟨some 10,some (8,false),.ld 2 true (.t 2)⟩,⟨some 11,some (8,false),.call 48 [.t 10]⟩,⟨some 12,some (8,false),.lens (.t 11)⟩,⟨some 13,some (8,false),.call 42 [.t 9,.c i0,.t 12]⟩,⟨some 14,some (8,false),.un .not (.t 13)⟩,oP 15 (.pick (.t 8) (.c (.bool true)) (.t 14))] (.cond (.t 15) (sR [oP 4 (.mv (.c (.int .i64 (-1))))] .ret) .skip)) (sR [lA 16 2 2,mV 17 1,oP 18 (.call 87 [.t 16,.t 17]),mV 4 18] .ret))
theorem dg49:Dg Tryz.prog 49 Tryz.f49 ic49 [(.t 4)]:=⟨Tryz.func49,by kernel_rfl,by kernel_rfl⟩
theorem c49 (s:Strm) (n:Nat) (h:strmOk s=true) (hn:n≤(sOut s).length):FnR Tryz.prog G 49 [.agg [.str s.inn,.sl 2 (s.parts.map Part.row)],.int .i64 (n:Int)] (.int .i64 (backP s.parts n)):=by
  refine mF dg49 Tryz.ntmps49 ?_
  have f1:=c47 s (strmOk_B h).sb
  have f2:=c48 s (strmOk_B h)
  have h240:=sOut_len (strmOk_B h)
  have f3:=c87 s n (strmOk_B h) (by omega)
  have hw:within (n:Int) 0 (sOut s).length=true:=M.within_iff.2 (by omega)
  rw [h] at f1
  simp only [ic49,go_sem]
  with_reducible repeat' (first|refine br ?_ ?_<;>intro h e<;>(try simp only [e,go_sem,hw])<;>clear e|rw [i64w (by omega)]|refine sd ?_<;>try simp only [go_sem,hw]|(first|refine cr (f1 ..) ?_|refine cr (f2 ..) ?_|refine cr (c42 ..) ?_|refine cr (f3 ..) ?_)<;>try simp only [go_sem,hw]|fail)
def ic26:IC:=sR [oP 2 (.box 33 (.t 0)),oP 4 (.alloc 46 [i0,i0,i0,i0,s0,.nils,s0,.nils]),oP 5 (.mv (.c (.bool false)))] (.seq (sR [lA 7 4 2,oP 8 (.call 29 [.t 7]),oP 9 (.un .not (.t 8)),mV 10 9,⟨some 11,some (10,false),.mv (.t 1)⟩,⟨some 12,some (10,false),.fad 0 (.t 2)⟩,⟨some 13,some (10,false),.ld 1 false (.t 12)⟩,⟨some 14,some (10,false),.len (.t 13)⟩,⟨some 15,some (10,false),.bin .sub (.t 14) (.c (.int .i64 1))⟩,⟨some 16,some (10,false),.call 42 [.t 11,.c i0,.t 15]⟩,⟨some 17,some (10,false),.un .not (.t 16)⟩,oP 18 (.pick (.t 10) (.c (.bool true)) (.t 17))] (.cond (.t 18) (sR [oP 19 (.build [i0,i0,i0,i0,s0,.nils,s0,.nils] []),nP (.sto 8 (.t 4) (.t 19)),oP 5 (.mv (.c (.bool false)))] .ret) .skip)) (.seq (.drw [0,1,0,4,0,28,60,124,0,256,0,1792,3840,7936,16383,32767] [(0,fD 20 1 2),(1,lA 21 2 20),(2,fD 22 0 2),(3,lD 23 1 22),(4,mV 24 1),(5,oP 25 (.iad 10 (.t 23) (.t 24))),(6,fD 26 0 25),(7,lA 27 2 26),(8,fD 28 0 2),(9,lD 29 1 28),(10,mV 30 1),(11,oP 31 (.iad 10 (.t 29) (.t 30))),(12,fD 32 2 31),(13,lA 33 2 32),(14,oP 34 (.call 45 [.t 21,.t 27,.t 33])),(15,mV 6 34)]) (.seq (sR [mV 35 6,oP 36 (.bin .lss (.t 35) (.c i0))] (.cond (.t 36) (sR [oP 37 (.build [i0,i0,i0,i0,s0,.nils,s0,.nils] []),nP (.sto 8 (.t 4) (.t 37)),oP 5 (.mv (.c (.bool false)))] .ret) .skip)) (sR [fD 38 1 2,fD 39 1 38,lD 40 1 39,mV 41 6,oP 42 (.iad 8 (.t 40) (.t 41)),lA 43 8 42,oP 44 (.call 46 [.t 43]),nP (.sto 8 (.t 4) (.t 44)),oP 5 (.mv (.c (.bool true)))] .ret))))
theorem dg26:Dg Tryz.prog 26 Tryz.f26 ic26 [(.cell 4 8 true),(.t 5)]:=⟨Tryz.func26,by kernel_rfl,by kernel_rfl⟩
theorem c26 (w:M.World) (hw:WI w) (hok:worldOk w=true) (i:Nat) (hi:i<w.convs.length):FnR Tryz.prog G 26 [.agg [.sl 10 (w.convs.map Conv.row),.sl 3 (w.door.map.map Pair.row),.sl 8 (w.door.flows.map Flw.row),.sl 7 (w.nets.map Pk.row)],.int .i64 (i:Int)] (.tup [.agg (Flw.row ((worldFlow w i).getD .zero)),.bool (worldFlow w i).isSome]):=by
  refine mF dg26 Tryz.ntmps26 ?_
  have f1:=c29 w (wi_ws hw)
  rw [hok] at f1
  have hcl:=hw.cl
  have hg:w.convs.getD i default=w.convs[i]:=by simp [List.getD,hi]
  have hfl:=hw.flows2
  have f2:=c45 (w.door.map.map Pair.row) w.door.flows w.convs[i].ins w.convs[i].out (by omega)
  have hwi:within (i:Int) 0 ((w.convs.length:Int) - 1)=true:=M.within_iff.2 (by omega)
  rw [worldFlow_is hok (List.getElem?_eq_getElem hi)]
  generalize w.convs[i]=c at *
  simp only [ic26,go_sem]
  cases hix:flowIx w.door.flows c.ins c.out with
  | none =>
    rw [hix,show ixI none = -1 from rfl] at f2
    with_reducible repeat' (first|rw [i64w (by omega)];try simp only [go_sem,hwi,getD_mp hi,hg]|refine br ?_ ?_<;>intro h e<;>(try simp only [e,go_sem,hwi,getD_mp hi,hg])<;>clear e|refine sd ?_<;>try simp only [go_sem,hwi,getD_mp hi,hg]|(first|refine cr (f1 ..) ?_|refine cr (c42 ..) ?_|refine cr (f2 ..) ?_)<;>try simp only [go_sem,hwi,getD_mp hi,hg]|fail)
    all_goals first|done|simp [Flw.zero,Flw.row,Strm.zero,E.zero]|trace_state
  | some k =>
    obtain ⟨f,e1,_,_,_⟩:=flowIx_some hix
    have hk:=(List.getElem?_eq_some_iff.1 e1).1
    have hgk:w.door.flows.getD k default=f:=by simp [List.getD,e1]
    have hB:=(flow_at hw.door e1).2.2
    have f3:=c46 f ⟨by have:=(strmOk_B hB.1).sb.2.1;omega,by have:=(strmOk_B hB.2.1).sb.2.1;omega⟩
    rw [hix] at f2
    have h1:ixI (some k)=(k:Int):=rfl
    rw [h1] at f2
    have h2:¬ (k:Int)<0:=by omega
    with_reducible repeat' (first|rw [i64w (by omega)];try simp only [go_sem,hwi,getD_mp hi,hg,getD_mp hk,hgk,eq_false h2]|refine br ?_ ?_<;>intro h e<;>(try simp only [e,go_sem,hwi,getD_mp hi,hg,getD_mp hk,hgk,eq_false h2])<;>clear e|refine sd ?_<;>try simp only [go_sem,hwi,getD_mp hi,hg,getD_mp hk,hgk,eq_false h2]|(first|refine cr (f1 ..) ?_|refine cr (c42 ..) ?_|refine cr (f2 ..) ?_|refine cr (f3 ..) ?_)<;>try simp only [go_sem,hwi,getD_mp hi,hg,getD_mp hk,hgk,eq_false h2]|fail)
    all_goals simp [e1]
def ic22:IC:=sR [oP 3 (.box 30 (.t 0)),oP 4 (.box 38 (.t 1)),oP 5 (.box 38 (.t 2)),oP 6 (.alloc 46 [i0,i0,i0,i0,s0,.nils,s0,.nils]),oP 7 (.mv (.c (.bool false)))] (.seq (sR [oP 8 (.mv (.c i0))] (.block 0 (.loop (.seq (sR [mV 9 8,fD 10 1 3,lD 11 1 10,oP 12 (.len (.t 11)),bN 13 .lss 9 12] (.cond (.t 13) .skip (.exit 0))) (.seq (.block 1 (.seq (.drw [0,1,0,7,15,31,0,127,255,511,1023,511,4095,8191,16383,511,65535,131071] [(0,fD 16 1 3),(1,lD 17 1 16),(2,mV 18 8),(3,oP 19 (.iad 8 (.t 17) (.t 18))),(4,fD 20 0 19),(5,lA 21 2 20),(6,lA 22 2 4),(7,oP 23 (.eqs false [.i,.i] (.t 21) (.t 22))),(8,mV 24 23),(9,⟨some 25,some (24,true),.fad 1 (.t 3)⟩),(10,⟨some 26,some (24,true),.ld 1 false (.t 25)⟩),(11,⟨some 27,some (24,true),.mv (.t 8)⟩),(12,⟨some 28,some (24,true),.iad 8 (.t 26) (.t 27)⟩),(13,⟨some 29,some (24,true),.fad 2 (.t 28)⟩),(14,⟨some 30,some (24,true),.ld 2 true (.t 29)⟩),(15,⟨some 31,some (24,true),.ld 2 true (.t 5)⟩),(16,⟨some 32,some (24,true),.eqs false [.i,.i] (.t 30) (.t 31)⟩),(17,oP 33 (.pick (.t 24) (.t 32) (.c (.bool false))))]) (.cond (.t 33) (sR [fD 34 1 3,lD 35 1 34,mV 36 8,oP 37 (.iad 8 (.t 35) (.t 36)),lA 38 8 37,nP (.sto 8 (.t 6) (.t 38)),oP 7 (.mv (.c (.bool true)))] .ret) .skip))) (.reg [mV 14 8,oP 15 (.bin .add (.t 14) (.c (.int .i64 1))),mV 8 15])))))) (sR [oP 39 (.build [i0,i0,i0,i0,s0,.nils,s0,.nils] []),nP (.sto 8 (.t 6) (.t 39)),oP 7 (.mv (.c (.bool false)))] .ret))
theorem dg22:Dg Tryz.prog 22 Tryz.f22 ic22 [(.cell 6 8 true),(.t 7)]:=⟨Tryz.func22,by kernel_rfl,by kernel_rfl⟩
theorem c22 (d:Door) (i o:E) (hl:d.flows.length≤2000000):FnR Tryz.prog G 22 [.agg [.sl 3 (d.map.map Pair.row),.sl 8 (d.flows.map Flw.row)],.agg [.int .i64 i.a,.int .i64 i.p],.agg [.int .i64 o.a,.int .i64 o.p]] (.tup [.agg (Flw.row (((flowIx d.flows i o).bind fun k=>d.flows[k]?).getD .zero)),.bool (flowIx d.flows i o).isSome]):=by
  refine mF dg22 Tryz.ntmps22 ?_
  simp only [ic22,go_sem]
  refine loopN (fun k:Nat=>⟨getL [(3,.pv 1003 0),(4,.pv 1004 0),(5,.pv 1005 0),(6,.pv 1006 0),(8,.int .i64 (k:Int))],getH [(1003,.var 30 [.sl 3 (d.map.map Pair.row),.sl 8 (d.flows.map Flw.row)]),(1004,.var 38 [.int .i64 i.a,.int .i64 i.p]),(1005,.var 38 [.int .i64 o.a,.int .i64 o.p]),(1006,.var 46 [.int .i64 0,.int .i64 0,.int .i64 0,.int .i64 0,.str [],.nils,.str [],.nils])]⟩) (fun k=>d.flows.length - k)
    (fun k=>k≤d.flows.length∧(d.flows.take k).any (sameF i o)=false) 0 (leQ []) ⟨Nat.zero_le _,by simp⟩ ?_
  intro k ⟨hk,ha⟩
  simp only [go_sem]
  by_cases h:(k:Int)<d.flows.length
  · have hil:k<d.flows.length:=by omega
    have hg:d.flows.getD k default=d.flows[k]:=by simp [List.getD,hil]
    have hs:=any_step hil ha
    have hat:=fun h1 h2=>flowIx_at (List.getElem?_eq_getElem hil) h1 h2 ha
    simp only [eq_true h,go_sem]
    generalize hf:d.flows[k]=f at *
    with_reducible repeat' (first|rw [i64w (by omega)];try simp only [go_sem,getD_mp hil,hg,E.ext_iff']|refine br ?_ ?_<;>intro h e<;>(try simp only [e,go_sem,getD_mp hil,hg,E.ext_iff'])<;>clear e|refine sd ?_<;>try simp only [go_sem,getD_mp hil,hg,E.ext_iff']|fail)
    all_goals first
      | (have e:=hat (by assumption) (by assumption);simp [e,List.getElem?_eq_getElem hil,hf];done)
      | (refine ⟨k+1,by omega,⟨by omega,hs ?_⟩,(leQ [])⟩;simp [sameF, *];done)
      | trace_state
  · simp only [eq_false h,go_sem]
    have:k=d.flows.length:=by omega
    subst this
    rw [List.take_length] at ha
    rw [flowIx_none.2 ha]
    with_reducible repeat' (first|refine br ?_ ?_<;>intro h e<;>(try simp only [e,go_sem])<;>clear e|rw [i64w (by omega)]|refine sd ?_<;>try simp only [go_sem]|fail)
    all_goals simp [Flw.zero,Strm.zero,E.zero]
def ic24:IC:=sR [oP 2 (.box 33 (.t 0)),oP 3 (.box 53 (.t 1)),oP 4 (.alloc 33 [.nils,.nils,.nils,.nils])] (.seq (sR [lA 6 4 2,oP 7 (.call 29 [.t 6]),oP 8 (.un .not (.t 7))] (.cond (.t 8) (sR [oP 9 (.build [.nils,.nils,.nils,.nils] []),nP (.sto 4 (.t 4) (.t 9))] .ret) .skip)) (sR [lA 10 4 2,oP 11 (.call 38 [.t 10]),oP 5 (.alloc 33 [.nils,.nils,.nils,.nils]),nP (.sto 4 (.t 5) (.t 11))] (sR [lA 12 11 3,oP 13 (.call 37 [.t 5,.t 12])] (sR [lA 14 4 5,oP 15 (.call 38 [.t 14]),nP (.sto 4 (.t 4) (.t 15))] .ret))))
theorem dg24:Dg Tryz.prog 24 Tryz.f24 ic24 [(.cell 4 4 true)]:=⟨Tryz.func24,by kernel_rfl,by kernel_rfl⟩
theorem c24 (w:M.World) (e:Ev) (hw:WI w) (hok:worldOk w=true) (ht:e.pkt.text.length≤2000000):FnR Tryz.prog G 24 [.agg [.sl 10 (w.convs.map Conv.row),.sl 3 (w.door.map.map Pair.row),.sl 8 (w.door.flows.map Flw.row),.sl 7 (w.nets.map Pk.row)],.agg [.int .i64 e.kind,.int .i64 e.a,.int .i64 e.b,.int .i64 e.c,.int .i64 e.pkt.kind,.int .i64 e.pkt.frm.a,.int .i64 e.pkt.frm.p,.int .i64 e.pkt.to.a,.int .i64 e.pkt.to.p,.int .i64 e.pkt.at_,.str e.pkt.text]] (.agg [.sl 10 ((wDo w e).convs.map Conv.row),.sl 3 ((wDo w e).door.map.map Pair.row),.sl 8 ((wDo w e).door.flows.map Flw.row),.sl 7 ((wDo w e).nets.map Pk.row)]):=by
  refine mF dg24 Tryz.ntmps24 ?_
  have f1:=c29 w (wi_ws hw)
  rw [hok] at f1
  simp only [ic24,go_sem]
  with_reducible repeat' (first|refine br ?_ ?_<;>intro h e<;>(try simp only [e,go_sem])<;>clear e|rw [i64w (by omega)]|refine sd ?_<;>try simp only [go_sem]|(first|refine cr (f1 ..) ?_)<;>try simp only [go_sem]|fail)
  refine callO (o38 w hw) [] 11 3 (by simp only [go_sem];first|done|simp) (by simp) (by rintro _ _ ⟨rfl,rfl⟩;simp) (by intro i hi;rcases (show i=0∨i=1∨i=2 by omega) with rfl|rfl|rfl<;>simp only [go_sem]) ?_
  rintro _ _ ⟨rfl,rfl⟩
  simp only [go_sem]
  with_reducible repeat' (first|refine br ?_ ?_<;>intro h e<;>(try simp only [e,go_sem])<;>clear e|rw [i64w (by omega)]|refine sd ?_<;>try simp only [go_sem]|fail)
  refine callN (c37 w e hw ht) [1005,101101,101100,101102] [] true 13 4 (by simp only [go_sem];first|done|simp) (by simp only [go_sem];first|done|simp) (by simp) (by simp) (by simp) ?_ ?_ ?_
  · rintro _ _ ⟨rfl,v',hv',rfl⟩
    exact ⟨by simp,by simp,.inl rfl,fun i hi=>by obtain rfl:i=0:=(by omega);simp [chH,stepOk]⟩
  · intro i hi
    rcases (show i=0∨i=1∨i=2∨i=3 by omega) with rfl|rfl|rfl|rfl<;>simp only [go_sem]
  rintro _ _ ⟨rfl,v,hv,rfl⟩
  have hwv:WI v:=by rw [hv];exact wDo_ok hw e
  rw [← hv]
  simp only [go_sem]
  with_reducible repeat' (first|refine br ?_ ?_<;>intro h e<;>(try simp only [e,go_sem])<;>clear e|rw [i64w (by omega)]|refine sd ?_<;>try simp only [go_sem]|fail)
  refine callF (c38 v hwv) [101302,101301,101303] true (by simp only [go_sem];simp) (by simp only [List.mem_cons,List.not_mem_nil,or_false];rintro c (rfl|rfl|rfl)<;>simp only [go_sem]) rfl (.inl rfl) ?_
  simp only [go_sem]
  with_reducible repeat' (first|refine br ?_ ?_<;>intro h e<;>(try simp only [e,go_sem])<;>clear e|rw [i64w (by omega)]|refine sd ?_<;>try simp only [go_sem]|fail)
def ic31:IC:=sR [oP 2 (.box 33 (.t 0)),oP 4 (.alloc 33 [.nils,.nils,.nils,.nils])] (.seq (sR [lA 6 4 2,oP 7 (.call 29 [.t 6]),oP 8 (.un .not (.t 7)),mV 9 8,⟨some 10,some (9,false),.mv (.t 1)⟩,⟨some 11,some (9,false),.call 42 [.t 10,.c i0,.c (.int .i64 6)]⟩,⟨some 12,some (9,false),.un .not (.t 11)⟩,oP 13 (.pick (.t 9) (.c (.bool true)) (.t 12))] (.cond (.t 13) (sR [oP 14 (.build [.nils,.nils,.nils,.nils] []),nP (.sto 4 (.t 4) (.t 14))] .ret) .skip)) (sR [lA 15 4 2,oP 16 (.call 38 [.t 15]),oP 5 (.alloc 33 [.nils,.nils,.nils,.nils]),nP (.sto 4 (.t 5) (.t 16))] (.seq (sR [mV 17 1,oP 18 (.mv (.c i0))] (.block 0 (.loop (sR [bN 19 .lss 18 17] (.seq (.cond (.t 19) .skip (.exit 0)) (.seq (.block 1 (.reg [oP 20 (.call 55 [.t 5])])) (.reg [oP 21 (.bin .add (.t 18) (.c (.int .i64 1))),mV 18 21]))))))) (sR [lA 22 4 5,oP 23 (.call 38 [.t 22]),nP (.sto 4 (.t 4) (.t 23))] .ret))))
theorem dg31:Dg Tryz.prog 31 Tryz.f31 ic31 [(.cell 4 4 true)]:=⟨Tryz.func31,by kernel_rfl,by kernel_rfl⟩
theorem c31 (w:M.World) (n:Nat) (hn:n≤6) (hw:WI w) (hok:worldOk w=true):FnR Tryz.prog G 31 [.agg [.sl 10 (w.convs.map Conv.row),.sl 3 (w.door.map.map Pair.row),.sl 8 (w.door.flows.map Flw.row),.sl 7 (w.nets.map Pk.row)],.int .i64 (n:Int)] (.agg [.sl 10 ((rounds n w).convs.map Conv.row),.sl 3 ((rounds n w).door.map.map Pair.row),.sl 8 ((rounds n w).door.flows.map Flw.row),.sl 7 ((rounds n w).nets.map Pk.row)]):=by
  refine mF dg31 Tryz.ntmps31 ?_
  have f1:=c29 w (wi_ws hw)
  rw [hok] at f1
  have hwi:within (n:Int) 0 6=true:=M.within_iff.2 (by omega)
  simp only [ic31,go_sem]
  with_reducible repeat' (first|refine br ?_ ?_<;>intro h e<;>(try simp only [e,go_sem,hwi])<;>clear e|rw [i64w (by omega)]|refine sd ?_<;>try simp only [go_sem,hwi]|(first|refine cr (f1 ..) ?_|refine cr (c42 ..) ?_)<;>try simp only [go_sem,hwi]|fail)
  refine callO (o38 w hw) [] 16 3 (by simp only [go_sem];first|done|simp) (by simp) (by rintro _ _ ⟨rfl,rfl⟩;simp) (by intro i hi;rcases (show i=0∨i=1∨i=2 by omega) with rfl|rfl|rfl<;>simp only [go_sem]) ?_
  rintro _ _ ⟨rfl,rfl⟩
  simp only [go_sem]
  with_reducible repeat' (first|refine br ?_ ?_<;>intro h e<;>(try simp only [e,go_sem])<;>clear e|rw [i64w (by omega)]|refine sd ?_<;>try simp only [go_sem]|fail)
  refine loopN (fun a:Nat × M.World=>⟨getL [(4,.pv 1004 0),(5,.pv 1005 0),(17,.int .i64 (n:Int)),(18,.int .i64 (a.1:Int))],getH [(1004,.var 33 [.nils,.nils,.nils,.nils]),(1005,.var 33 [.own 101600 a.2.convs.length,.sl 3 (a.2.door.map.map Pair.row),.own 101601 a.2.door.flows.length,.own 101602 a.2.nets.length]),(101601,.arr 46 8 (a.2.door.flows.map Flw.row)),(101600,.arr 56 10 (a.2.convs.map Conv.row)),(101602,.arr 40 7 (a.2.nets.map Pk.row))]⟩)
    (fun a=>n - a.1) (fun a=>a.1≤n∧WI a.2∧rounds n w=rounds (n - a.1) a.2) (0,w) (leQ []) ⟨Nat.zero_le _,hw,rfl⟩ ?_
  intro ⟨k,v⟩ ⟨hk,hv,he⟩
  simp only at hk hv he
  simp only [go_sem]
  by_cases h:(k:Int)<n
  · rw [show n - k=(n - (k+1))+1 by omega] at he
    simp only [eq_true h,go_sem]
    refine callN (c55 v hv) [1005,101601,101600,101602] [] true 20 4 (by simp only [go_sem];first|done|simp) (by simp only [go_sem];first|done|simp) (by simp) (by simp) (by simp) ?_ ?_ ?_
    · rintro _ _ ⟨rfl,v',hv',rfl⟩
      exact ⟨by simp,by simp,.inl rfl,fun i hi=>by obtain rfl:i=0:=(by omega);simp [chH,stepOk]⟩
    · intro i hi
      rcases (show i=0∨i=1∨i=2∨i=3 by omega) with rfl|rfl|rfl|rfl<;>simp only [go_sem]
    rintro _ _ ⟨rfl,v',hv',rfl⟩
    simp only [go_sem]
    with_reducible repeat' (first|rw [i64w (by omega)];try simp only [go_sem]|refine br ?_ ?_<;>intro h e<;>(try simp only [e,go_sem])<;>clear e|refine sd ?_<;>try simp only [go_sem]|fail)
    exact ⟨(k+1,v'),by simp only;omega,⟨by simp only;omega,by rw [hv'];exact hv.round,by rw [hv'];exact he⟩,(leQ [(101601,102001),(101600,102002),(101602,102003)])⟩
  · simp only [eq_false h,go_sem]
    obtain rfl:k=n:=by omega
    rw [Nat.sub_self] at he
    rw [show rounds k w=v from he]
    refine callF (c38 v hv) [101600,101601,101602] true (by simp only [go_sem];simp) (by simp only [List.mem_cons,List.not_mem_nil,or_false];rintro c (rfl|rfl|rfl)<;>simp only [go_sem]) rfl (.inl rfl) ?_
    simp only [go_sem]
    with_reducible repeat' (first|refine br ?_ ?_<;>intro h e<;>(try simp only [e,go_sem])<;>clear e|rw [i64w (by omega)]|refine sd ?_<;>try simp only [go_sem]|fail)
def ic28:IC:=sR [oP 1 (.box 33 (.t 0)),oP 2 (.mv (.c (.bool false)))] (.seq (sR [oP 3 (.mv (.c i0))] (.block 0 (.loop (.seq (sR [mV 7 3,fD 8 0 1,lD 9 1 8,oP 10 (.len (.t 9)),bN 11 .lss 7 10] (.cond (.t 11) .skip (.exit 0))) (.seq (.block 1 (sR [fD 14 0 1,lD 15 1 14,mV 16 3,oP 17 (.iad 10 (.t 15) (.t 16)),lA 18 10 17,oP 4 (.alloc 56 [i0,i0,i0,i0,s0,s0,i0,i0,s0,s0]),nP (.sto 10 (.t 4) (.t 18))] (sR [lA 20 4 1,mV 21 3,oP 22 (.call 26 [.t 20,.t 21]),mV 19 22,eX 23 19 0,eX 24 19 1,oP 5 (.alloc 46 [i0,i0,i0,i0,s0,.nils,s0,.nils]),nP (.sto 8 (.t 5) (.t 23)),mV 6 24] (.seq (sR [mV 25 6,oP 26 (.un .not (.t 25))] (.cond (.t 26) (.seq (sR [fD 27 8 4,lD 28 1 27,oP 29 (.bin .neq (.t 28) (.c s0)),mV 30 29,⟨some 31,some (30,false),.fad 9 (.t 4)⟩,⟨some 32,some (30,false),.ld 1 false (.t 31)⟩,⟨some 33,some (30,false),.bin .neq (.t 32) (.c s0)⟩,oP 34 (.pick (.t 30) (.c (.bool true)) (.t 33)),mV 35 34,⟨some 36,some (35,false),.fad 6 (.t 4)⟩,⟨some 37,some (35,false),.ld 1 false (.t 36)⟩,⟨some 38,some (35,false),.bin .neq (.t 37) (.c i0)⟩,oP 39 (.pick (.t 35) (.c (.bool true)) (.t 38)),mV 40 39,⟨some 41,some (40,false),.fad 7 (.t 4)⟩,⟨some 42,some (40,false),.ld 1 false (.t 41)⟩,⟨some 43,some (40,false),.bin .neq (.t 42) (.c i0)⟩,oP 44 (.pick (.t 40) (.c (.bool true)) (.t 43))] (.cond (.t 44) (sR [oP 2 (.mv (.c (.bool false)))] .ret) .skip)) (.exit 1)) .skip)) (.seq (.seq (.drw [0,1,3,0,8,31,63,127,255,511,1023,255,2303,8191,16383,32767,65535,131071,262143,131071,655359,1703935,4194303,8388607,16777215,33554431,67108863,134217727,67108863,335544319,872415231,2147483647,4294967295,8589934591] [(0,fD 45 4 5),(1,fD 46 0 45),(2,lD 47 1 46),(3,fD 48 4 4),(4,lD 49 1 48),(5,oP 50 (.call 25 [.t 47,.t 49])),(6,oP 51 (.un .not (.t 50))),(7,mV 52 51),(8,⟨some 53,some (52,false),.fad 6 (.t 5)⟩),(9,⟨some 54,some (52,false),.fad 0 (.t 53)⟩),(10,⟨some 55,some (52,false),.ld 1 false (.t 54)⟩),(11,⟨some 56,some (52,false),.fad 5 (.t 4)⟩),(12,⟨some 57,some (52,false),.ld 1 false (.t 56)⟩),(13,⟨some 58,some (52,false),.call 25 [.t 55,.t 57]⟩),(14,⟨some 59,some (52,false),.un .not (.t 58)⟩),(15,oP 60 (.pick (.t 52) (.c (.bool true)) (.t 59))),(16,mV 61 60),(17,⟨some 62,some (61,false),.fad 8 (.t 4)⟩),(18,⟨some 63,some (61,false),.ld 1 false (.t 62)⟩),(19,⟨some 64,some (61,false),.fad 4 (.t 5)⟩),(20,⟨some 65,some (61,false),.ld 2 true (.t 64)⟩),(21,⟨some 66,some (61,false),.call 27 [.t 65]⟩),(22,⟨some 67,some (61,false),.call 25 [.t 63,.t 66]⟩),(23,⟨some 68,some (61,false),.un .not (.t 67)⟩),(24,oP 69 (.pick (.t 61) (.c (.bool true)) (.t 68))),(25,mV 70 69),(26,⟨some 71,some (70,false),.fad 9 (.t 4)⟩),(27,⟨some 72,some (70,false),.ld 1 false (.t 71)⟩),(28,⟨some 73,some (70,false),.fad 6 (.t 5)⟩),(29,⟨some 74,some (70,false),.ld 2 true (.t 73)⟩),(30,⟨some 75,some (70,false),.call 27 [.t 74]⟩),(31,⟨some 76,some (70,false),.call 25 [.t 72,.t 75]⟩),(32,⟨some 77,some (70,false),.un .not (.t 76)⟩),(33,oP 78 (.pick (.t 70) (.c (.bool true)) (.t 77)))]) (.cond (.t 78) (sR [oP 2 (.mv (.c (.bool false)))] .ret) .skip)) (.seq (.drw [0,1,0,4,0,16,48,124,255,511,1023,2047,1023,5119,1023,17407,50175,127999,262143,524287] [(0,fD 79 6 4),(1,lD 80 1 79),(2,fD 81 4 5),(3,lA 82 2 81),(4,fD 83 8 4),(5,lD 84 1 83),(6,oP 85 (.lens (.t 84))),(7,oP 86 (.call 49 [.t 82,.t 85])),(8,bN 87 .gtr 80 86),(9,mV 88 87),(10,⟨some 89,some (88,false),.fad 7 (.t 4)⟩),(11,⟨some 90,some (88,false),.ld 1 false (.t 89)⟩),(12,⟨some 91,some (88,false),.fad 6 (.t 5)⟩),(13,⟨some 92,some (88,false),.ld 2 true (.t 91)⟩),(14,⟨some 93,some (88,false),.fad 9 (.t 4)⟩),(15,⟨some 94,some (88,false),.ld 1 false (.t 93)⟩),(16,⟨some 95,some (88,false),.lens (.t 94)⟩),(17,⟨some 96,some (88,false),.call 49 [.t 92,.t 95]⟩),(18,⟨some 97,some (88,false),.bin .gtr (.t 90) (.t 96)⟩),(19,oP 98 (.pick (.t 88) (.c (.bool true)) (.t 97)))]) (.cond (.t 98) (sR [oP 2 (.mv (.c (.bool false)))] .ret) .skip))))))) (.reg [mV 12 3,oP 13 (.bin .add (.t 12) (.c (.int .i64 1))),mV 3 13])))))) (sR [oP 2 (.mv (.c (.bool true)))] .ret))
theorem dg28:Dg Tryz.prog 28 Tryz.f28 ic28 [(.t 2)]:=⟨Tryz.func28,by kernel_rfl,by kernel_rfl⟩
theorem c28 (w:M.World) (hs:SI CK CN w):FnR Tryz.prog G 28 [.agg [.sl 10 (w.convs.map Conv.row),.sl 3 (w.door.map.map Pair.row),.sl 8 (w.door.flows.map Flw.row),.sl 7 (w.nets.map Pk.row)]] (.bool true):=by
  refine mF dg28 Tryz.ntmps28 ?_
  have hcl:=hs.wi.cl
  simp only [ic28,go_sem]
  with_reducible repeat' (first|refine br ?_ ?_<;>intro h e<;>(try simp only [e,go_sem])<;>clear e|rw [i64w (by omega)]|refine sd ?_<;>try simp only [go_sem]|fail)
  refine loopN (fun i:Nat=>⟨getL [(1,.pv 1001 0),(3,.int .i64 (i:Int))],getH [(1001,.var 33 [.sl 10 (w.convs.map Conv.row),.sl 3 (w.door.map.map Pair.row),.sl 8 (w.door.flows.map Flw.row),.sl 7 (w.nets.map Pk.row)])]⟩) (fun i=>w.convs.length - i) (fun i=>i≤w.convs.length) 0 (leQ []) (Nat.zero_le _) ?_
  intro i hi
  simp only [go_sem]
  by_cases h:(i:Int)<w.convs.length
  · have hil:i<w.convs.length:=by omega
    have hg:w.convs.getD i default=w.convs[i]:=by simp [List.getD,hil]
    have hg2:=List.getElem?_eq_getElem hil
    have ff:=c26 w hs.wi (si_ok hs) i hil
    obtain ⟨t1,t2⟩:=si_true hs hg2
    have hcb:=convOk_B (hs.wi.cv _ (List.getElem_mem hil))
    simp only [eq_true h,go_sem]
    generalize w.convs[i]=c at *
    cases hf:worldFlow w i with
    | none =>
      obtain ⟨e1,e2,e3,e4⟩:=t1 hf
      rw [hf] at ff
      simp only [Option.isSome_none,Option.getD_none] at ff
      with_reducible repeat' (first|rw [i64w (by omega)];try simp only [go_sem,hg,getD_mp hil,e1,e2,e3,e4]|refine br ?_ ?_<;>intro h e<;>(try simp only [e,go_sem,hg,getD_mp hil,e1,e2,e3,e4])<;>clear e|refine sd ?_<;>try simp only [go_sem,hg,getD_mp hil,e1,e2,e3,e4]|(first|refine cr (ff ..) ?_)<;>try simp only [go_sem,hg,getD_mp hil,e1,e2,e3,e4]|fail)
      all_goals first
        | exact ⟨i+1,by omega,by omega,(leQ [])⟩
        | trace_state
    | some f =>
      obtain ⟨_,_,tr,s1,s2⟩:=t2 f hf
      rw [hf] at ff
      simp only [Option.isSome_some,Option.getD_some] at ff
      have n1:=sOut_len (strmOk_B s1)
      have n2:=sOut_len (strmOk_B s2)
      have m1:=hcb.up
      have m2:=hcb.down
      have g1:=c25 f.up.inn c.up tr.upIn (by omega)
      have g2:=c25 f.down.inn c.down tr.downIn (by omega)
      have g3:=c27 f.up s1
      have g4:=c27 f.down s2
      have g5:=c25 c.upGot (sOut f.up) tr.upGot (by omega)
      have g6:=c25 c.downGot (sOut f.down) tr.downGot (by omega)
      have g7:=c49 f.up c.upGot.length s1 tr.upGot.length_le
      have g8:=c49 f.down c.downGot.length s2 tr.downGot.length_le
      have a1:¬ (backP f.up.parts c.upGot.length<c.upAck):=by have:=tr.upAck;omega
      have a2:¬ (backP f.down.parts c.downGot.length<c.downAck):=by have:=tr.downAck;omega
      generalize backP f.up.parts c.upGot.length=b1 at *
      generalize backP f.down.parts c.downGot.length=b2 at *
      with_reducible repeat' (first|rw [i64w (by omega)];try simp only [go_sem,hg,getD_mp hil,eq_false a1,eq_false a2]|refine br ?_ ?_<;>intro h e<;>(try simp only [e,go_sem,hg,getD_mp hil,eq_false a1,eq_false a2])<;>clear e|refine sd ?_<;>try simp only [go_sem,hg,getD_mp hil,eq_false a1,eq_false a2]|(first|refine cr (ff ..) ?_|refine cr (g1 ..) ?_|refine cr (g2 ..) ?_|refine cr (g3 ..) ?_|refine cr (g4 ..) ?_|refine cr (g5 ..) ?_|refine cr (g6 ..) ?_|refine cr (g7 ..) ?_|refine cr (g8 ..) ?_)<;>try simp only [go_sem,hg,getD_mp hil,eq_false a1,eq_false a2]|fail)
      all_goals first
        | exact ⟨i+1,by omega,by omega,(leQ [])⟩
        | trace_state
  · simp only [eq_false h,go_sem]
def ic32:IC:=sR [oP 1 (.box 33 (.t 0)),oP 2 (.mv (.c (.bool false)))] (sR [fD 3 1 1,fD 4 0 3,lD 5 1 4,oP 6 (.len (.t 5)),oP 7 (.bin .leq (.t 6) (.c (.int .i64 7))),mV 2 7] .ret)
theorem dg32:Dg Tryz.prog 32 Tryz.f32 ic32 [(.t 2)]:=⟨Tryz.func32,by kernel_rfl,by kernel_rfl⟩
theorem c32 (w:M.World):FnR Tryz.prog G 32 [.agg [.sl 10 (w.convs.map Conv.row),.sl 3 (w.door.map.map Pair.row),.sl 8 (w.door.flows.map Flw.row),.sl 7 (w.nets.map Pk.row)]] (.bool (decide ((w.door.map.length:Int)≤7))):=by
  refine mF dg32 Tryz.ntmps32 ?_
  simp only [ic32,go_sem]
theorem c631 (w:M.World) (hw:WI w) (hok:worldOk w=true):FnR Tryz.prog G 31 [.agg [.sl 10 (w.convs.map Conv.row),.sl 3 (w.door.map.map Pair.row),.sl 8 (w.door.flows.map Flw.row),.sl 7 (w.nets.map Pk.row)],.int .i64 6] (.agg [.sl 10 ((rounds 6 w).convs.map Conv.row),.sl 3 ((rounds 6 w).door.map.map Pair.row),.sl 8 ((rounds 6 w).door.flows.map Flw.row),.sl 7 ((rounds 6 w).nets.map Pk.row)]):=c31 w 6 (by decide) hw hok
theorem tmod_nat (a b:Nat) (h:0<b):∃ n:Nat,(a:Int).tmod (b:Int)=(n:Int)∧n<b:=by
  refine ⟨((a:Int).tmod b).toNat, ?_, ?_⟩
  · have:=Int.tmod_nonneg (b:Int) (show (0:Int)≤a by omega);omega
  · have:=Int.tmod_nonneg (b:Int) (show (0:Int)≤a by omega)
    have:=Int.tmod_lt_of_pos (a:Int) (show (0:Int)<b by omega);omega
def quiet (k:Int) (es:List Ev):List Ev:=es.filter fun e=>decide (e.kind≠k)
theorem quiet_nil (k:Int):quiet k []=[]:=rfl
theorem quiet_t {k:Int} {l:List Ev} {e:Ev} (h:e.kind≠k):quiet k (l++[e])=quiet k l++[e]:=by simp [quiet,h]
theorem quiet_f {k:Int} {l:List Ev} {e:Ev} (h:e.kind=k):quiet k (l++[e])=quiet k l:=by simp [quiet,h]
theorem quiet_len (k:Int) (l:List Ev):(quiet k l).length≤l.length:=List.length_filter_le _ _
theorem quiet_mem {k:Int} {l:List Ev} {e:Ev} (h:e∈quiet k l):e∈l:=(List.mem_filter.1 h).1
theorem quiet_ne {k:Int} {l:List Ev} {e:Ev} (h:e∈quiet k l):e.kind≠k:=by simpa using (List.mem_filter.1 h).2
theorem play_some {cs:List Conv} {es fs:List Ev} {w:M.World} (h:worldPlay cs es=some w) (hl:fs.length≤es.length):∃ x,worldPlay cs fs=some x:=by
  obtain ⟨w0,h1,h2,_⟩:=worldPlay_is h
  exact ⟨_,by simp only [worldPlay,h1];rw [if_pos (by omega)]⟩
end Go.Proofs.YtgganfobejnfaaaGreatDoor.W
