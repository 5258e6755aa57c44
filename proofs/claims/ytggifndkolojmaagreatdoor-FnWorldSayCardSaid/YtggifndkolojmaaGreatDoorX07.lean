/- Part 7 of the proof: the walk over values, the plain model, contracts of the functions of the program. -/
import Derived.Test.YtggifndkolojmaaGreatDoorX06
import Derived.Test.YtggifndkolojmaaGreatDoorX03
set_option linter.all false
namespace Go.Proofs.YtggifndkolojmaaGreatDoor.W
open Go Go.RowKit Go.Proofs Go.Proofs.YtggifndkolojmaaGreatDoor.VL Go.Proofs.YtggifndkolojmaaGreatDoor.M
attribute [local congr] optK_congr guardK_congr condK_congr runT_congr runD_congr wpI_congr CallV_congr LoopI_congr pureK_congr effK_congr calK_congr stepV_congr doV_congr exN_congr exB_congr retF_congr retQ_congr gK_congr condW_congr ldK_congr stoK_congr
attribute [local go_sem] argL_cons argL_nil argH_nil argH_cons chH_getH wpI_seq wpI_reg wpI_drw wpI_ret cond_k condW_t condW_f wpI_skip wpI_block wpI_exit wpI_loop exN_n exN_r exN_e exB_n exB_r exB_h exB_m runT_k kT_e runT_nil runD_k kD_e runD_nil step_u step_k gK_t gK_f do_mv do_bino bo_add bo_sub bo_mul bo_subu bo_quo bo_rem bo_xor bo_eql bo_neq bo_lss bo_leq bo_gtr bo_geq bo_cat bo_eqs bo_nes do_pick do_call do_cal calK_f do_box do_alloc do_ldk ldK_s do_stok stoK_s do_fad do_nilc do_not do_neg do_len do_lens do_ext do_eqs do_beq do_isn do_cvi do_sls do_idx do_mn do_mx do_build do_mkf do_s2b do_b2s do_slv do_iad do_bsl do_mks do_app ev_t ev_c app_some app_none
attribute [local go_sem] List.nil_append List.cons_append List.append_nil getL_hit getL_miss getH_nil getH_hit getH_miss nm_eq ne_eq Nat.reduceEqDiff not_false_eq_true Nat.reduceAdd Nat.add_zero Nat.zero_add if_true if_false ite_true ite_false pureK_s effK_s optK_s gdV_t gdV_f gdV_s pick_b ge_iff_le gt_iff_lt cond_true cond_false fresh_k cells_agg cells_int cells_bool cells_str cells_own cells_sl cells_nils ld_pv ld_pa ld_ip ldVar_t ldVar_f ldArr_t ldArr_f ldRow_t ldRow_f ldA_s ld1_s fad_pv fad_pa fad_ip nilc_pv nilc_pa nilc_ip not_b neg_i cvi_i ext_t retF_n retF_r
attribute [local go_sem] resV_k rvs_nil rvs_t rvs_c fstO_s consO_s resK_s resL_1 resL_2 resL_3 resL_4  Option.some.injEq List.map_cons List.map_nil List.all_cons List.all_nil Bool.and_true Bool.and_self Bool.not_true Bool.not_false Option.map_some Option.map_none sls_s slsG_s loV_n loV_i hiV_n hiV_i idx_s mn_i mx_i s2b_s b2s_s bytO_s bytes_nil bytes_cons conB_s slv_sl slv_own slv_nils slvG_s slvN_s slvO_s iad_sl iadG_map take_map drop_map List.length_map iad_own iad_view iadO_a iadW_a mks_i rowO_nils rowO_sl rowO_own rowA_a eq_self appG_nils appG_own appO_a guardP_T mapA_s bld_nil mkf_nil bldF_e fill_nil fill_cons mkf_e lens_s len_nils len_sl len_own len_view isn_nile isn_erre List.getElem?_cons_zero List.getElem?_cons_succ List.length_cons List.length_nil decide_true decide_false Int.toNat_natCast Int.cast_ofNat_Int Int.reduceLT Int.reduceLE Int.reduceEq Int.reduceAdd Int.reduceSub Int.reduceMul Int.reduceNeg Int.reduceToNat List.getD_cons_zero List.getD_cons_succ not_true_eq_false not_false_eq_true Bool.false_eq_true Bool.true_eq_false reduceCtorEq
attribute [local go_sem] E.row Pc.row Pair.row Part.row Strm.row Flw.row Pk.row Door.row Conv.row World.row Ev.row rdV E.eta Pc.eta Pair.eta Part.eta Strm.eta Pk.eta Flw.eta Conv.eta Door.eta World.eta Ev.eta
attribute [local go_sem] sub_ok st_pv st_pa stVar_v stArr_a Nat.le_refl List.drop_zero List.drop_succ_cons List.take_succ_cons List.take_zero setR Nat.reduceLeDiff
attribute [local go_sem] wk_bot wk2_bot wk1_bot wk_undef wk_tup_e wk2_agg_e wk_agg_e wk1_fn_e wk2_fn_e wk_fn_e wkl_nil wkl_cons wkh_var_e wkh_arr_e wkh_fresh_e wkh_dead_v wkh_dead_a wkh_dead_d wk0_undef wk0_int wk0_bool wk0_str wk0_nils wk0_nils_sl wk0_nilp wk0_nile wk0_erre wk0_sl wk0_iptr wk0_own wk0_view wk0_pv wk0_pa fzA_a fzW_a fzP_v wk0_own_sl wk0_view_sl wk0_pv_iptr WkS_nil WkS_cons WkN_nil WkN_cons nonB_nil nonB_cons getN_nil getN_hit getN_miss pinOk_0 pinOk_s and_true true_and and_self
attribute [local go_sem] bot_int one_int unt_int clo_int bot_bool one_bool unt_bool clo_bool bot_str one_str unt_str clo_str bot_nils one_nils unt_nils clo_nils bot_nilp one_nilp unt_nilp clo_nilp bot_nile one_nile unt_nile clo_nile bot_erre one_erre unt_erre clo_erre bot_raw one_raw unt_raw clo_raw bot_sl one_sl unt_sl clo_sl bot_own one_own unt_own clo_own bot_view one_view unt_view clo_view bot_pv one_pv unt_pv clo_pv bot_pa one_pa unt_pa clo_pa bot_iptr one_iptr unt_iptr clo_iptr unt_agg unt_fn one_fn
attribute [local go_sem] rn_tup rn_agg rn2_agg rn_fn rn2_fn rnfn1 rn_bot rn2_bot rn1_bot rn0_int rn0_bool rn0_str rn0_nils rn0_nilp rn0_nile rn0_erre rn0_sl rn0_iptr rn0_own rn0_view rn0_pv rn0_pa hrn_var hrn_arr hrn_dead outU_nil outU_cons deads_nil deads_cons bk_ge bk_lt nsF_0 nsF_s chH_0 chH_s chH_n newN_e andB_s eqR_nil eqR_i eqR_b eqR_s mapX_f mapX_t eqs_a beq_f beq_t live_arr live_var nsl_nil nsl_cons Nat.reduceMul Nat.reduceLT Nat.zero_le Nat.not_lt_zero
attribute [local go_sem] mV lD lA fD bN eX oP nP sR i0 s0
theorem bits10_ok:∀ x∈bits10,x.all okB=true:=by decide
theorem x102 (code:B) (p m:Int) (hc:code.length≤2000) (hp:0≤p∧p≤800000000) (hm:0≤m∧m≤40):FnP Tryz.prog G 102 1 [rdH code p] [.pv 0 0,.int .i64 m] (rdQ code p 31 fun r=>∃ s:B,(s.length:Int)≤m∧s.all okB=true∧r=.str s):=by
  refine mP dg102 Tryz.ntmps102 ⟨_,_,p,by omega,by omega,rfl,[],by simp;omega,rfl,rfl⟩ ?_
  simp only [ic102,go_sem,rdH]
  refine pkN code p 7 9 hc fun k k1 k2=>?_
  simp only [go_sem,rdH]
  have k2:=k2 (by omega)
  refine loopN (fun a:B × Int × Int=>⟨getL [(0,.pv 0 0),(1,.int .i64 m),(5,.str a.1),(6,.int .i64 a.2.1)],getH [(0,.var 104 [.sl 1 (code.map byR),.int .i64 a.2.2])]⟩) (fun a=>a.2.1.toNat) (fun a=>(0≤a.2.1∧a.2.1≤6)∧(p≤a.2.2∧a.2.2≤p+1+5 * (6 - a.2.1))∧(a.1.length:Int)≤m∧a.1.all okB=true) ([],k,p+1) (leQ []) (by simp;omega) ?_
  intro ⟨s,n,q⟩ ⟨h1,h2,h3,h4⟩
  simp only at h1 h2 h3 h4
  simp only [go_sem]
  with_reducible repeat' (first|rw [i64w (by omega)];try simp only [go_sem]|refine br ?_ ?_<;>intro h e<;>(try simp only [e,go_sem])<;>clear e|refine sd ?_<;>try simp only [go_sem]|fail)
  · refine callN (c147 code q bits10 hc (by omega) (by decide)) [0] [1015] true 16 1 (by simp only [go_sem,rdH,bits10,List.mem_singleton];first|done|simp) (by simp only [go_sem,rdH];first|done|simp) (by simp) (by simp) (by simp only [List.mem_singleton];rintro c rfl;exact ⟨rfl,by simp⟩) ?_ ?_ ?_
    · rintro _ _ ⟨q',_,_,rfl,_⟩
      exact ⟨by simp,by simp,.inl rfl,fun i hi=>by obtain rfl:i=0:=(by omega);simp [chH,stepOk,rdH]⟩
    · intro i hi;obtain rfl:i=0:=(by omega);simp only [go_sem]
    rintro _ _ ⟨q',q1,q2,rfl,x,hx,rfl⟩
    have hxl:=bits10_le x hx
    have hxo:=bits10_ok x hx
    simp only [go_sem,rdH]
    refine pkN code q' 5 18 hc fun j j1 j2=>?_
    simp only [go_sem,rdH]
    with_reducible repeat' (first|rw [i64w (by omega)];try simp only [go_sem]|refine br ?_ ?_<;>intro h e<;>(try simp only [e,go_sem])<;>clear e|refine sd ?_<;>try simp only [go_sem]|fail)
    · refine callN (c146 code (q'+1) hc (by omega)) [0] [] true 21 1 (by simp only [go_sem,rdH];first|done|simp) (by simp only [go_sem,rdH];first|done|simp) (by simp) (by simp) (by simp) ?_ ?_ ?_
      · rintro _ _ ⟨q',_,_,rfl,_⟩
        exact ⟨by simp,by simp,.inl rfl,fun i hi=>by obtain rfl:i=0:=(by omega);simp [chH,stepOk,rdH]⟩
      · intro i hi;obtain rfl:i=0:=(by omega);simp only [go_sem]
      rintro _ _ ⟨q3,q4,q5,rfl,e,he1,he2,rfl⟩
      have hte:=text_le (e:=e)
      simp only [go_sem,rdH]
      refine callR (c148 e.a e.p) rfl rfl ?_
      simp only [go_sem]
      clear hx hxl hxo
      have hto:=text_ok (e:=e)
      generalize e.text=w at *
      refine pureG (by omega) ?_
      simp only [go_sem]
      have hwl:(w++[59]).length=w.length+1:=by simp
      with_reducible repeat' (first|rw [i64w (by omega)];try simp only [go_sem,hwl]|refine br ?_ ?_<;>intro h e<;>(try simp only [e,go_sem,hwl])<;>clear e|refine sd ?_<;>try simp only [go_sem,hwl]|fail)
      · exact ⟨(s++64 :: (w++[59]),n - 1,q3),by simp only;omega,⟨by simp only;omega,by simp only;omega,by simp only [List.length_append,List.length_cons,List.length_nil];omega,by simp only [List.all_append,List.all_cons,h4,hto,List.all_nil];decide⟩,(leQ [])⟩
      · exact ⟨(s,n - 1,q3),by simp only;omega,⟨by simp only;omega,by simp only;omega,h3,h4⟩,(leQ [])⟩
    · exact ⟨(s++x,n - 1,q'+1),by simp only;omega,⟨by simp only;omega,by simp only;omega,by simp;omega,by simp only [List.all_append,h4,hxo,Bool.and_self]⟩,(leQ [])⟩
    · exact ⟨(s,n - 1,q'+1),by simp only;omega,⟨by simp only;omega,by simp only;omega,h3,h4⟩,(leQ [])⟩
  · exact retN (.str s) [rdH code q] [] (by simp only [go_sem]) ⟨q,by omega,by omega,rfl,s,h3,h4,rfl⟩ (by simp only [go_sem,rdH]) (by simp [argH,getN,rdH]) (by simp only [go_sem,rdH])
structure StrI (m:List Pair) (s:Strm) (t:B):Prop where
  hm:mapOk m=true
  hs:strmOk s=true
  sm:SmS s
  le:s.inn.length≤t.length
  ht:t.length≤30
  ok:t.all okB=true
theorem StrI.step {m:List Pair} {s:Strm} {t u:B} (out:Bool) (h:StrI m s t) (h1:1≤u.length) (h2:s.inn.length+u.length≤t.length) (h3:u.all okB=true) :
    PutOk m s s.inn.length u∧StrI (put m s s.inn.length u out).1 (put m s s.inn.length u out).2.1 t∧(put m s s.inn.length u out).2.1.inn.length=s.inn.length+u.length:=by
  have ht:=h.ht
  have htx:txOk u=true:=by simp only [txOk,h3,Bool.true_and,decide_eq_true_eq];omega
  have hp:=put_ok (out:=out) h.hm h.hs htx (n:=s.inn.length) (by omega)
  have hb:behind s.inn s.inn.length u=(s.inn++u,true):=by
    unfold behind;rw [if_neg (by simp;omega),if_neg (by omega)];simp
  have hl:(put m s s.inn.length u out).2.1.inn.length=s.inn.length+u.length:=by
    unfold put;rw [if_pos (by rw [hb])];simp [hb]
  exact ⟨⟨h.hm,h.hs,by omega,by omega⟩,⟨hp.1,hp.2,put_sm h.hm h.sm,by omega,h.ht,h.ok⟩,hl⟩
theorem StrI.cut {m:List Pair} {s:Strm} {t:B} (h:StrI m s t):StrI m s (t.take s.inn.length) :=
  ⟨h.hm,h.hs,h.sm,by have:=h.le;simp;omega,by have:=h.ht;simp;omega,List.all_eq_true.2 fun x hx=>List.all_eq_true.1 h.ok x (List.mem_of_mem_take hx)⟩
theorem StrI.q {m:List Pair} {s:Strm} {t:B} (h:StrI m s t):(sOut s).length≤36:=by
  have:=sOut_65 h.sm h.hs
  have:=h.le
  have:=h.ht
  omega
def pkQ (r:V):Prop:=∃ k:Pk,k.text.length≤50∧r=.agg (Pk.row k)
def words3:List B:=[[],[97,32,98],[120]]
theorem words3_le:∀ x∈words3,x.length≤3:=by decide
def ic101:IC:=sR [oP 2 (.alloc 54 [i0,i0,i0,i0,i0,i0,s0])] (sR [mV 4 0,oP 5 (.call 32 [.t 4,.c (.int .i64 2)]),oP 6 (.bin .add (.c (.int .i64 1)) (.t 5)),mV 7 0,oP 8 (.call 146 [.t 7]),mV 9 0,oP 10 (.call 146 [.t 9]),mV 11 0,oP 12 (.call 32 [.t 11,.c (.int .i64 20)]),oP 13 (.build [i0,i0,i0,i0,i0,i0,s0] [(0,(1,.t 6)),(1,(2,.t 8)),(3,(2,.t 10)),(5,(1,.t 12))]),oP 3 (.alloc 54 [i0,i0,i0,i0,i0,i0,s0]),nP (.sto 7 (.t 3) (.t 13))] (.seq (sR [fD 14 0 3,lD 15 1 14,oP 16 (.bin .eql (.t 15) (.c (.int .i64 1)))] (.cond (.t 16) (.reg [mV 17 0,oP 18 (.call 102 [.t 17,.c (.int .i64 16)]),oP 19 (.bin .add (.t 18) (.c (.str [97]))),fD 20 6 3,nP (.sto 1 (.t 20) (.t 19))]) .skip)) (.seq (sR [mV 21 0,oP 22 (.call 32 [.t 21,.c (.int .i64 20)])] (.block 0 (sR [oP 24 (.bin .eql (.t 22) (.c i0)),mV 23 24] (.cond (.t 23) (.reg [mV 25 0,oP 26 (.call 32 [.t 25,.c (.int .i64 4)]),fD 27 0 3,nP (.sto 1 (.t 27) (.t 26))]) (sR [oP 29 (.bin .eql (.t 22) (.c (.int .i64 1))),mV 28 29] (.cond (.t 28) (.reg [oP 30 (.bsl 3 1 [.c (.int .i64 (-1)),.c (.int .i64 99),.c (.int .i64 100)]),mV 31 0,oP 32 (.call 32 [.t 31,.c (.int .i64 3)]),oP 33 (.iad 1 (.t 30) (.t 32)),lD 34 1 33,fD 35 5 3,nP (.sto 1 (.t 35) (.t 34))]) (sR [oP 37 (.bin .eql (.t 22) (.c (.int .i64 2))),mV 36 37] (.cond (.t 36) (.reg [mV 38 0,oP 39 (.bsl 9 1 [.c s0,.c (.str [97,32,98]),.c (.str [120])]),oP 40 (.call 147 [.t 38,.t 39]),fD 41 6 3,nP (.sto 1 (.t 41) (.t 40))]) .skip)))))))) (sR [lA 42 7 3,nP (.sto 7 (.t 2) (.t 42))] .ret))))
theorem dg101:Dg Tryz.prog 101 Tryz.f101 ic101 [(.cell 2 7 true)]:=⟨Tryz.func101,by kernel_rfl,by kernel_rfl⟩
theorem c101 (code:B) (p:Int) (hc:code.length≤2000) (hp:0≤p∧p≤600000000):FnP Tryz.prog G 101 1 [rdH code p] [.pv 0 0] (rdQ code p 60 pkQ):=by
  refine mP dg101 Tryz.ntmps101 ⟨_,_,p,by omega,by omega,rfl,.zero,by simp [Pk.zero],rfl⟩ ?_
  have fin:∀ l mm (p':Int) (k:Pk),(p≤p'∧p'≤p+60)→k.text.length≤50→getL l 2=.pv 1002 0→getH mm 1002=.var 54 (Pk.row k)→getH mm 0=.var 104 [.sl 1 (code.map byR),.int .i64 p']→retQ [.cell 2 7 true] 1 (rdQ code p 60 pkQ) .ret ⟨getL l,getH mm⟩:=fun l mm p' k h1 h2 h3 h4 h5=>by
    refine retN (.agg (Pk.row k)) [rdH code p'] [] ?_ ⟨p',h1.1,h1.2,rfl,k,h2,rfl⟩ ?_ (by simp [argH,getN,rdH]) (by simp only [go_sem,rdH])
    · simp only [go_sem,h3,h4]
    · simp only [go_sem,rdH,h5]
  simp only [ic101,go_sem,rdH]
  with_reducible repeat' (first|rw [i64w (by omega)];try simp only [go_sem]|refine br ?_ ?_<;>intro h e<;>(try simp only [e,go_sem])<;>clear e|refine sd ?_<;>try simp only [go_sem]|fail)
  refine pkN code p 2 5 hc fun a a1 a2=>?_
  simp only [go_sem,rdH]
  with_reducible repeat' (first|rw [i64w (by omega)];try simp only [go_sem]|refine br ?_ ?_<;>intro h e<;>(try simp only [e,go_sem])<;>clear e|refine sd ?_<;>try simp only [go_sem]|fail)
  refine callN (c146 code (p+1) hc (by omega)) [0] [] true 8 1 (by simp only [go_sem,rdH];first|done|simp) (by simp only [go_sem,rdH];first|done|simp) (by simp) (by simp) (by simp) ?_ ?_ ?_
  · rintro _ _ ⟨q',_,_,rfl,_⟩
    exact ⟨by simp,by simp,.inl rfl,fun i hi=>by obtain rfl:i=0:=(by omega);simp [chH,stepOk,rdH]⟩
  · intro i hi;obtain rfl:i=0:=(by omega);simp only [go_sem]
  rintro _ _ ⟨q1,q11,q12,rfl,e,_,_,rfl⟩
  simp only [go_sem,rdH]
  with_reducible repeat' (first|rw [i64w (by omega)];try simp only [go_sem]|refine br ?_ ?_<;>intro h e<;>(try simp only [e,go_sem])<;>clear e|refine sd ?_<;>try simp only [go_sem]|fail)
  refine callN (c146 code q1 hc (by omega)) [0] [] true 10 1 (by simp only [go_sem,rdH];first|done|simp) (by simp only [go_sem,rdH];first|done|simp) (by simp) (by simp) (by simp) ?_ ?_ ?_
  · rintro _ _ ⟨q',_,_,rfl,_⟩
    exact ⟨by simp,by simp,.inl rfl,fun i hi=>by obtain rfl:i=0:=(by omega);simp [chH,stepOk,rdH]⟩
  · intro i hi;obtain rfl:i=0:=(by omega);simp only [go_sem]
  rintro _ _ ⟨q2,q21,q22,rfl,f,_,_,rfl⟩
  simp only [go_sem,rdH]
  with_reducible repeat' (first|rw [i64w (by omega)];try simp only [go_sem]|refine br ?_ ?_<;>intro h e<;>(try simp only [e,go_sem])<;>clear e|refine sd ?_<;>try simp only [go_sem]|fail)
  refine pkN code q2 20 12 hc fun b b1 b2=>?_
  simp only [go_sem,rdH]
  with_reducible repeat' (first|rw [i64w (by omega)];try simp only [go_sem]|refine br ?_ ?_<;>intro h e<;>(try simp only [e,go_sem])<;>clear e|refine sd ?_<;>try simp only [go_sem]|fail)
  · have:=0
    refine callN (x102 code (q2+1) 16 hc (by omega) (by omega)) [0] [] true 18 1 (by simp only [go_sem,rdH];first|done|simp) (by simp only [go_sem,rdH];first|done|simp) (by simp) (by simp) (by simp) ?_ ?_ ?_
    · rintro _ _ ⟨q',_,_,rfl,_⟩
      exact ⟨by simp,by simp,.inl rfl,fun i hi=>by obtain rfl:i=0:=(by omega);simp [chH,stepOk,rdH]⟩
    · intro i hi;obtain rfl:i=0:=(by omega);simp only [go_sem]
    rintro _ _ ⟨q3,q31,q32,rfl,t,ht1,_,rfl⟩
    simp only [go_sem,rdH]
    with_reducible repeat' (first|rw [i64w (by omega)];try simp only [go_sem]|refine br ?_ ?_<;>intro h e<;>(try simp only [e,go_sem])<;>clear e|refine sd ?_<;>try simp only [go_sem]|fail)
    refine pkN code q3 20 22 hc fun c c1 c2=>?_
    simp only [go_sem,rdH]
    have c2:=c2 (by omega)
    with_reducible repeat' (first|rw [i64w (by omega)];try simp only [go_sem]|refine br ?_ ?_<;>intro h e<;>(try simp only [e,go_sem])<;>clear e|refine sd ?_<;>try simp only [go_sem]|fail)
    · have:=0
      refine pkN code (q3+1) 4 26 hc fun d d1 d2=>?_
      simp only [go_sem,rdH]
      with_reducible repeat' (first|rw [i64w (by omega)];try simp only [go_sem]|refine br ?_ ?_<;>intro h e<;>(try simp only [e,go_sem])<;>clear e|refine sd ?_<;>try simp only [go_sem]|fail)
      exact fin _ _ (q3+1+1) ⟨d,e,f,b,t++[97]⟩ (by omega) (by simp only [List.length_append,List.length_cons,List.length_nil];omega) (by simp only [go_sem]) (by simp only [go_sem]) (by simp only [go_sem])
    · have:=0
      refine pkN code (q3+1) 3 32 hc fun d d1 d2=>?_
      simp only [go_sem,rdH]
      have d2:=d2 (by omega)
      rcases (show d=0∨d=1∨d=2 by omega) with rfl|rfl|rfl
      · have:=0
        with_reducible repeat' (first|rw [i64w (by omega)];try simp only [go_sem]|refine br ?_ ?_<;>intro h e<;>(try simp only [e,go_sem])<;>clear e|refine sd ?_<;>try simp only [go_sem]|fail)
        exact fin _ _ (q3+1+1) ⟨1+a,e,f,-1,t++[97]⟩ (by omega) (by simp only [List.length_append,List.length_cons,List.length_nil];omega) (by simp only [go_sem]) (by simp only [go_sem]) (by simp only [go_sem])
      · have:=0
        with_reducible repeat' (first|rw [i64w (by omega)];try simp only [go_sem]|refine br ?_ ?_<;>intro h e<;>(try simp only [e,go_sem])<;>clear e|refine sd ?_<;>try simp only [go_sem]|fail)
        exact fin _ _ (q3+1+1) ⟨1+a,e,f,99,t++[97]⟩ (by omega) (by simp only [List.length_append,List.length_cons,List.length_nil];omega) (by simp only [go_sem]) (by simp only [go_sem]) (by simp only [go_sem])
      · have:=0
        with_reducible repeat' (first|rw [i64w (by omega)];try simp only [go_sem]|refine br ?_ ?_<;>intro h e<;>(try simp only [e,go_sem])<;>clear e|refine sd ?_<;>try simp only [go_sem]|fail)
        exact fin _ _ (q3+1+1) ⟨1+a,e,f,100,t++[97]⟩ (by omega) (by simp only [List.length_append,List.length_cons,List.length_nil];omega) (by simp only [go_sem]) (by simp only [go_sem]) (by simp only [go_sem])
    · have:=0
      refine callN (c147 code (q3+1) words3 hc (by omega) (by decide)) [0] [1039] true 40 1 (by simp only [go_sem,rdH,words3,List.mem_singleton];first|done|simp) (by simp only [go_sem,rdH];first|done|simp) (by simp) (by simp) (by simp only [List.mem_singleton];rintro c rfl;exact ⟨rfl,by simp⟩) ?_ ?_ ?_
      · rintro _ _ ⟨q',_,_,rfl,_⟩
        exact ⟨by simp,by simp,.inl rfl,fun i hi=>by obtain rfl:i=0:=(by omega);simp [chH,stepOk,rdH]⟩
      · intro i hi;obtain rfl:i=0:=(by omega);simp only [go_sem]
      rintro _ _ ⟨q5,q51,q52,rfl,x,hx,rfl⟩
      simp only [go_sem,rdH]
      have hxl:=words3_le x hx
      with_reducible repeat' (first|rw [i64w (by omega)];try simp only [go_sem]|refine br ?_ ?_<;>intro h e<;>(try simp only [e,go_sem])<;>clear e|refine sd ?_<;>try simp only [go_sem]|fail)
      exact fin _ _ q5 ⟨1+a,e,f,b,x⟩ (by omega) (by simp only;omega) (by simp only [go_sem]) (by simp only [go_sem]) (by simp only [go_sem])
    · exact fin _ _ (q3+1) ⟨1+a,e,f,b,t++[97]⟩ (by omega) (by simp only [List.length_append,List.length_cons,List.length_nil];omega) (by simp only [go_sem]) (by simp only [go_sem]) (by simp only [go_sem])
  · have:=0
    with_reducible repeat' (first|rw [i64w (by omega)];try simp only [go_sem]|refine br ?_ ?_<;>intro h e<;>(try simp only [e,go_sem])<;>clear e|refine sd ?_<;>try simp only [go_sem]|fail)
    refine pkN code (q2+1) 20 22 hc fun c c1 c2=>?_
    simp only [go_sem,rdH]
    have c2:=c2 (by omega)
    with_reducible repeat' (first|rw [i64w (by omega)];try simp only [go_sem]|refine br ?_ ?_<;>intro h e<;>(try simp only [e,go_sem])<;>clear e|refine sd ?_<;>try simp only [go_sem]|fail)
    · have:=0
      refine pkN code ((q2+1)+1) 4 26 hc fun d d1 d2=>?_
      simp only [go_sem,rdH]
      with_reducible repeat' (first|rw [i64w (by omega)];try simp only [go_sem]|refine br ?_ ?_<;>intro h e<;>(try simp only [e,go_sem])<;>clear e|refine sd ?_<;>try simp only [go_sem]|fail)
      exact fin _ _ ((q2+1)+1+1) ⟨d,e,f,b,[]⟩ (by omega) (by simp) (by simp only [go_sem]) (by simp only [go_sem]) (by simp only [go_sem])
    · have:=0
      refine pkN code ((q2+1)+1) 3 32 hc fun d d1 d2=>?_
      simp only [go_sem,rdH]
      have d2:=d2 (by omega)
      rcases (show d=0∨d=1∨d=2 by omega) with rfl|rfl|rfl
      · have:=0
        with_reducible repeat' (first|rw [i64w (by omega)];try simp only [go_sem]|refine br ?_ ?_<;>intro h e<;>(try simp only [e,go_sem])<;>clear e|refine sd ?_<;>try simp only [go_sem]|fail)
        exact fin _ _ ((q2+1)+1+1) ⟨1+a,e,f,-1,[]⟩ (by omega) (by simp) (by simp only [go_sem]) (by simp only [go_sem]) (by simp only [go_sem])
      · have:=0
        with_reducible repeat' (first|rw [i64w (by omega)];try simp only [go_sem]|refine br ?_ ?_<;>intro h e<;>(try simp only [e,go_sem])<;>clear e|refine sd ?_<;>try simp only [go_sem]|fail)
        exact fin _ _ ((q2+1)+1+1) ⟨1+a,e,f,99,[]⟩ (by omega) (by simp) (by simp only [go_sem]) (by simp only [go_sem]) (by simp only [go_sem])
      · have:=0
        with_reducible repeat' (first|rw [i64w (by omega)];try simp only [go_sem]|refine br ?_ ?_<;>intro h e<;>(try simp only [e,go_sem])<;>clear e|refine sd ?_<;>try simp only [go_sem]|fail)
        exact fin _ _ ((q2+1)+1+1) ⟨1+a,e,f,100,[]⟩ (by omega) (by simp) (by simp only [go_sem]) (by simp only [go_sem]) (by simp only [go_sem])
    · have:=0
      refine callN (c147 code ((q2+1)+1) words3 hc (by omega) (by decide)) [0] [1039] true 40 1 (by simp only [go_sem,rdH,words3,List.mem_singleton];first|done|simp) (by simp only [go_sem,rdH];first|done|simp) (by simp) (by simp) (by simp only [List.mem_singleton];rintro c rfl;exact ⟨rfl,by simp⟩) ?_ ?_ ?_
      · rintro _ _ ⟨q',_,_,rfl,_⟩
        exact ⟨by simp,by simp,.inl rfl,fun i hi=>by obtain rfl:i=0:=(by omega);simp [chH,stepOk,rdH]⟩
      · intro i hi;obtain rfl:i=0:=(by omega);simp only [go_sem]
      rintro _ _ ⟨q5,q51,q52,rfl,x,hx,rfl⟩
      simp only [go_sem,rdH]
      have hxl:=words3_le x hx
      with_reducible repeat' (first|rw [i64w (by omega)];try simp only [go_sem]|refine br ?_ ?_<;>intro h e<;>(try simp only [e,go_sem])<;>clear e|refine sd ?_<;>try simp only [go_sem]|fail)
      exact fin _ _ q5 ⟨1+a,e,f,b,x⟩ (by omega) (by simp only;omega) (by simp only [go_sem]) (by simp only [go_sem]) (by simp only [go_sem])
    · exact fin _ _ ((q2+1)+1) ⟨1+a,e,f,b,[]⟩ (by omega) (by simp) (by simp only [go_sem]) (by simp only [go_sem]) (by simp only [go_sem])
structure WZ (w:M.World):Prop where
  s:WS w
  c1:1≤w.convs.length
  c3:w.convs.length≤3
  n:w.nets.length≤11
  a:∀ c∈w.convs,(0≤c.upAck∧c.upAck≤1000)∧0≤c.downAck∧c.downAck≤1000
def worldP (code:B) (p:Int) (r:V) (o:List Hs):Prop:=∃ (p':Int) (w:M.World),(p≤p'∧p'≤p+4300)∧(Dr w∧WZ w)∧r=.agg [.own 1 w.convs.length,.own 2 w.door.map.length,.own 3 w.door.flows.length,.own 4 w.nets.length]∧o=[rdH code p',.arr 41 10 (w.convs.map Conv.row),.arr 64 3 (w.door.map.map Pair.row),.arr 46 8 (w.door.flows.map Flw.row),.arr 54 7 (w.nets.map Pk.row)]
theorem wi_wz {w:M.World} (h:WI w) (h1:1≤w.convs.length):WZ w:=⟨wi_ws h,h1,by have:=h.cl;omega,by have:=h.nl;omega,wi_acks h⟩
theorem wz_map {w:M.World} (h:WZ w) {m:List Pair} (hm:m.length≤10):WZ ⟨w.convs,⟨m,w.door.flows⟩,w.nets⟩ :=
  ⟨⟨h.s.cl,h.s.cb,⟨by simp only;omega,h.s.db.2⟩,h.s.nl,h.s.nt⟩,h.c1,h.c3,h.n,h.a⟩
theorem wz_net {w:M.World} (h:WZ w) {l:List Pk} (hl:w.nets.length+l.length≤11) (ht:∀ p∈l,p.text.length≤50):WZ ⟨w.convs,w.door,w.nets++l⟩ :=
  ⟨⟨h.s.cl,h.s.cb,h.s.db,by simp only [List.length_append];omega,fun p hp=>by
    rcases List.mem_append.1 hp with hp|hp
    · exact h.s.nt p hp
    · have:=ht p hp;omega⟩,h.c1,h.c3,by simp only [List.length_append];omega,h.a⟩
theorem wz_conv {w:M.World} (h:WZ w) {c:Conv} (hc:c∈w.convs) (hl:w.convs.length≤2):WZ ⟨w.convs++[c],w.door,w.nets⟩:=by
  have hm:∀ x∈w.convs++[c],x∈w.convs:=fun x hx=>by
    rcases List.mem_append.1 hx with hx|hx
    · exact hx
    · simp only [List.mem_singleton] at hx;rw [hx];exact hc
  exact ⟨⟨by simp only [List.length_append,List.length_cons,List.length_nil];omega,fun x hx=>h.s.cb x (hm x hx),h.s.db,h.s.nl,h.s.nt⟩,by simp only [List.length_append,List.length_cons,List.length_nil];omega,by simp only [List.length_append,List.length_cons,List.length_nil];omega,h.n,fun x hx=>h.a x (hm x hx)⟩
def ic48:IC:=sR [oP 2 (.alloc 33 [.nils,.nils,.nils,.nils])] (sR [mV 7 0,oP 8 (.call 31 [.t 7]),mV 6 8,eX 9 6 0,eX 10 6 1,eX 11 6 2,oP 5 (.alloc 33 [.nils,.nils,.nils,.nils]),mV 3 9,mV 4 10,nP (.sto 4 (.t 5) (.t 11))] (.seq (sR [mV 12 0,oP 13 (.call 32 [.t 12,.c (.int .i64 40)])] (.block 0 (sR [oP 15 (.bin .eql (.t 13) (.c i0)),mV 14 15] (.cond (.t 14) (.reg [mV 16 0,oP 17 (.call 100 [.t 16]),fD 18 1 5,fD 19 0 18,nP (.sto 1 (.t 19) (.t 17))]) (sR [oP 21 (.bin .eql (.t 13) (.c (.int .i64 1))),mV 20 21] (.cond (.t 20) (.drw [0,1,0,4,12,31,63,127] [(0,fD 22 3 5),(1,lD 23 1 22),(2,mV 24 0),(3,oP 25 (.call 101 [.t 24])),(4,oP 26 (.bsl 54 7 [.t 25])),(5,oP 27 (.app 54 7 (.t 23) (.t 26))),(6,fD 28 3 5),(7,nP (.sto 1 (.t 28) (.t 27)))]) (sR [oP 30 (.bin .eql (.t 13) (.c (.int .i64 2))),mV 29 30] (.cond (.t 29) (.drw [0,1,0,4,12,28,60,127,255,511] [(0,fD 31 0 5),(1,lD 32 1 31),(2,fD 33 0 5),(3,lD 34 1 33),(4,oP 35 (.iad 10 (.t 34) (.c i0))),(5,lA 36 10 35),(6,oP 37 (.bsl 41 10 [.t 36])),(7,oP 38 (.app 41 10 (.t 32) (.t 37))),(8,fD 39 0 5),(9,nP (.sto 1 (.t 39) (.t 38)))]) (sR [oP 41 (.bin .eql (.t 13) (.c (.int .i64 3))),mV 40 41] (.cond (.t 40) (.block 1 (.loop (.seq (.seq (.drw [0,1,3,0,8,24,63] [(0,fD 42 3 5),(1,lD 43 1 42),(2,oP 44 (.len (.t 43))),(3,mV 45 0),(4,oP 46 (.call 32 [.t 45,.c (.int .i64 2)])),(5,oP 47 (.bin .add (.c (.int .i64 10)) (.t 46))),(6,bN 48 .lss 44 47)]) (.cond (.t 48) .skip (.exit 1))) (.block 2 (.drw [0,1,0,4,12,28,60,0,128,384,896,1920,4092,8188,16383,32767,65535] [(0,fD 49 3 5),(1,lD 50 1 49),(2,fD 51 0 5),(3,lD 52 1 51),(4,oP 53 (.iad 10 (.t 52) (.c i0))),(5,fD 54 0 53),(6,lA 55 2 54),(7,fD 56 0 5),(8,lD 57 1 56),(9,oP 58 (.iad 10 (.t 57) (.c i0))),(10,fD 59 2 58),(11,lA 60 2 59),(12,oP 61 (.build [i0,i0,i0,i0,i0,i0,s0] [(0,(1,.c (.int .i64 2))),(1,(2,.t 55)),(3,(2,.t 60))])),(13,oP 62 (.bsl 54 7 [.t 61])),(14,oP 63 (.app 54 7 (.t 50) (.t 62))),(15,fD 64 3 5),(16,nP (.sto 1 (.t 64) (.t 63)))]))))) .skip)))))))))) (sR [lA 65 4 5,nP (.sto 4 (.t 2) (.t 65))] .ret)))
theorem dg48:Dg Tryz.prog 48 Tryz.f48 ic48 [(.cell 2 4 true)]:=⟨Tryz.func48,by kernel_rfl,by kernel_rfl⟩
set_option maxHeartbeats 1000000 in
theorem c48 (code:B) (p:Int) (hc:code.length≤2000) (hp:0≤p∧p≤200000000):FnP Tryz.prog G 48 1 [rdH code p] [.pv 0 0] (worldP code p):=by
  refine mP dg48 Tryz.ntmps48 ?_ ?_
  · obtain ⟨w1,hw1⟩:=world1
    have hp1:=PW.new hw1
    exact ⟨_,_,p,w1,by omega,⟨.same w1 hp1,wi_wz hp1.1 (by have:=newConvs_len (worldNew_is hw1).2.1;simp at this;omega)⟩,rfl,rfl⟩
  have fin:∀ l mm (p':Int) (w:M.World) (n0 n1 n2 n3:Nat),(p≤p'∧p'≤p+4300)→(Dr w∧WZ w)→getL l 2=.pv 1002 0→getH mm 0=.var 104 [.sl 1 (code.map byR),.int .i64 p'] →
      getH mm 1002=.var 33 [.own n0 w.convs.length,.own n1 w.door.map.length,.own n2 w.door.flows.length,.own n3 w.nets.length]→[0,n0,n1,n2,n3].Nodup →
      getH mm n0=.arr 41 10 (w.convs.map Conv.row)→getH mm n1=.arr 64 3 (w.door.map.map Pair.row)→getH mm n2=.arr 46 8 (w.door.flows.map Flw.row)→getH mm n3=.arr 54 7 (w.nets.map Pk.row) →
      retQ [.cell 2 4 true] 1 (worldP code p) .ret ⟨getL l,getH mm⟩:=fun l mm p' w n0 n1 n2 n3 h1 h2 h3 h4 h5 h6 g1 g2 g3 g4=>by
    refine retN (.agg [.own 1 w.convs.length,.own 2 w.door.map.length,.own 3 w.door.flows.length,.own 4 w.nets.length]) [rdH code p',.arr 41 10 (w.convs.map Conv.row),.arr 64 3 (w.door.map.map Pair.row),.arr 46 8 (w.door.flows.map Flw.row),.arr 54 7 (w.nets.map Pk.row)] [(1,n0),(2,n1),(3,n2),(4,n3)] ?_ ⟨p',w,h1,h2,rfl,rfl⟩ ?_ (by simpa [argH,getN,rdH] using h6) (by simp only [go_sem,rdH])
    · simp only [go_sem,h3,h5]
    · simp only [go_sem,rdH,h4,g1,g2,g3,g4]
  simp only [ic48,go_sem,rdH]
  with_reducible repeat' (first|rw [i64w (by omega)];try simp only [go_sem]|refine br ?_ ?_<;>intro h e<;>(try simp only [e,go_sem])<;>clear e|refine sd ?_<;>try simp only [go_sem]|fail)
  refine callN (c31 code p hc (by omega)) [0] [] true 8 7 (by simp only [go_sem,rdH];first|done|simp) (by simp only [go_sem,rdH];first|done|simp) (by simp) (by simp) (by simp) ?_ ?_ ?_
  · rintro _ _ ⟨q',_,_,_,_,_,_,_,_,rfl⟩
    exact ⟨by simp,by simp,.inl rfl,fun i hi=>by obtain rfl:i=0:=(by omega);simp [chH,stepOk,rdH]⟩
  · intro i hi;rcases (show i=0∨i=1∨i=2∨i=3∨i=4∨i=5∨i=6 by omega) with rfl|rfl|rfl|rfl|rfl|rfl|rfl<;>simp only [go_sem]
  rintro _ _ ⟨q,cs,es,w,hq,_,_,⟨hw,hw1⟩,rfl,rfl⟩
  have hz:=wi_wz hw.1 hw1
  have hcl:=hw.1.cl
  have hnl:=hw.1.nl
  simp only [go_sem,rdH]
  with_reducible repeat' (first|rw [i64w (by omega)];try simp only [go_sem]|refine br ?_ ?_<;>intro h e<;>(try simp only [e,go_sem])<;>clear e|refine sd ?_<;>try simp only [go_sem]|fail)
  refine pkN code q 40 13 hc fun x x1 x2=>?_
  simp only [go_sem,rdH]
  with_reducible repeat' (first|rw [i64w (by omega)];try simp only [go_sem]|refine br ?_ ?_<;>intro h e<;>(try simp only [e,go_sem])<;>clear e|refine sd ?_<;>try simp only [go_sem]|fail)
  · have:=0
    refine callN (o100 code (q+1) hc (by omega)) [0] [] true 17 2 (by simp only [go_sem,rdH];first|done|simp) (by simp only [go_sem,rdH];first|done|simp) (by simp) (by simp) (by simp) ?_ ?_ ?_
    · rintro _ _ ⟨q',_,_,_,rfl,rfl⟩
      exact ⟨by simp,by simp,.inl rfl,fun i hi=>by obtain rfl:i=0:=(by omega);simp [chH,stepOk,rdH]⟩
    · intro i hi;rcases (show i=0∨i=1 by omega) with rfl|rfl<;>simp only [go_sem]
    rintro _ _ ⟨q1,m,hq1,⟨hm1,hm2⟩,rfl,rfl⟩
    simp only [go_sem,rdH]
    with_reducible repeat' (first|rw [i64w (by omega)];try simp only [go_sem]|refine br ?_ ?_<;>intro h e<;>(try simp only [e,go_sem])<;>clear e|refine sd ?_<;>try simp only [go_sem]|fail)
    exact fin _ _ q1 ⟨w.convs,⟨m,w.door.flows⟩,w.nets⟩ 100803 101701 100805 100806 (by omega) ⟨.map w m hw,wz_map hz hm2⟩ (by simp only [go_sem]) (by simp only [go_sem]) (by simp only [go_sem]) (by decide) (by simp only [go_sem]) (by simp only [go_sem]) (by simp only [go_sem]) (by simp only [go_sem])
  · have:=0
    refine callN (c101 code (q+1) hc (by omega)) [0] [] true 25 1 (by simp only [go_sem,rdH];first|done|simp) (by simp only [go_sem,rdH];first|done|simp) (by simp) (by simp) (by simp) ?_ ?_ ?_
    · rintro _ _ ⟨q',_,_,rfl,_⟩
      exact ⟨by simp,by simp,.inl rfl,fun i hi=>by obtain rfl:i=0:=(by omega);simp [chH,stepOk,rdH]⟩
    · intro i hi;obtain rfl:i=0:=(by omega);simp only [go_sem]
    rintro _ _ ⟨q1,q11,q12,rfl,pk,hpk,rfl⟩
    simp only [go_sem,rdH]
    with_reducible repeat' (first|rw [i64w (by omega)];try simp only [go_sem]|refine br ?_ ?_<;>intro h e<;>(try simp only [e,go_sem])<;>clear e|refine sd ?_<;>try simp only [go_sem]|fail)
    exact fin _ _ q1 ⟨w.convs,w.door,w.nets++[pk]⟩ 100803 100804 100805 1027 (by omega) ⟨.net w pk hw,wz_net hz (l:=[pk]) (by simp only [List.length_cons,List.length_nil];omega) (fun p hp=>by simp only [List.mem_singleton] at hp;subst hp;exact hpk)⟩ (by simp only [go_sem]) (by simp only [go_sem]) (by simp only [go_sem];first|done|simp) (by decide) (by simp only [go_sem]) (by simp only [go_sem]) (by simp only [go_sem]) (by simp only [go_sem];first|done|simp [Pk.row])
  · have:=0
    have hil:0<w.convs.length:=by omega
    have hg:w.convs.getD 0 default=w.convs[0]:=by simp [List.getD,hil]
    have hm0:=List.getElem_mem hil
    simp only [go_sem,getD_mp hil,hg]
    with_reducible repeat' (first|rw [i64w (by omega)];try simp only [go_sem,getD_mp hil,hg]|refine br ?_ ?_<;>intro h e<;>(try simp only [e,go_sem,getD_mp hil,hg])<;>clear e|refine sd ?_<;>try simp only [go_sem,getD_mp hil,hg]|fail)
    generalize w.convs[0]=c at *
    exact fin _ _ (q+1) ⟨w.convs++[c],w.door,w.nets⟩ 1038 100804 100805 100806 (by omega) ⟨.conv w c hw hm0,wz_conv hz hm0 hcl⟩ (by simp only [go_sem]) (by simp only [go_sem]) (by simp only [go_sem];first|done|simp) (by decide) (by simp only [go_sem];first|done|simp [Conv.row]) (by simp only [go_sem]) (by simp only [go_sem]) (by simp only [go_sem])
  · have:=0
    have hil:0<w.convs.length:=by omega
    have hg:w.convs.getD 0 default=w.convs[0]:=by simp [List.getD,hil]
    have hm0:=List.getElem_mem hil
    generalize w.convs[0]=c at *
    refine loopN (fun a:Int × List Pk=>⟨getL [(0,.pv 0 0),(2,.pv 1002 0),(5,.pv 1005 0)],getH [(0,.var 104 [.sl 1 (code.map byR),.int .i64 a.1]),(1002,.var 33 [.nils,.nils,.nils,.nils]),(1005,.var 33 [.own 100803 w.convs.length,.own 100804 w.door.map.length,.own 100805 w.door.flows.length,.own 100806 (w.nets++a.2).length]),(100803,.arr 41 10 (w.convs.map Conv.row)),(100804,.arr 64 3 (w.door.map.map Pair.row)),(100805,.arr 46 8 (w.door.flows.map Flw.row)),(100806,.arr 54 7 ((w.nets++a.2).map Pk.row))]⟩)
      (fun a=>11 - (w.nets.length+a.2.length)) (fun a=>(p≤a.1∧a.1≤p+4002+a.2.length)∧w.nets.length+a.2.length≤11∧∀ x∈a.2,x=⟨2,c.ins,c.out,0,[]⟩) (q+1,[]) (by rw [List.append_nil];exact (leQ [])) ⟨by simp only [List.length_nil];omega,by simp only [List.length_nil];omega,by simp⟩ ?_
    intro ⟨q2,l⟩ ⟨h1,h2,h3⟩
    simp only at h1 h2 h3
    simp only [go_sem]
    have hnl2:(w.nets++l).length=w.nets.length+l.length:=List.length_append
    with_reducible repeat' (first|rw [i64w (by omega)];try simp only [go_sem]|refine br ?_ ?_<;>intro h e<;>(try simp only [e,go_sem])<;>clear e|refine sd ?_<;>try simp only [go_sem]|fail)
    refine pkN code q2 2 46 hc fun k k1 k2=>?_
    simp only [go_sem,rdH]
    have k2:=k2 (by omega)
    with_reducible repeat' (first|rw [i64w (by omega)];try simp only [go_sem,getD_mp hil,hg]|refine br ?_ ?_<;>intro h e<;>(try simp only [e,go_sem,getD_mp hil,hg])<;>clear e|refine sd ?_<;>try simp only [go_sem,getD_mp hil,hg]|fail)
    · refine ⟨(q2+1,l++[⟨2,c.ins,c.out,0,[]⟩]),by simp only [List.length_append,List.length_cons,List.length_nil];omega,⟨by simp only [List.length_append,List.length_cons,List.length_nil];omega,by simp only [List.length_append,List.length_cons,List.length_nil];omega, ?_⟩,leN [(100806,1063)] ?_ ?_ (by simp [getN]) (by simp only [go_sem])⟩
      · intro x hx
        rcases List.mem_append.1 hx with hx|hx
        · exact h3 x hx
        · simpa using hx
      · simp only [go_sem]
        first|done|(simp;done)|(simp;omega)
      · simp only [go_sem]
        try simp [Pk.row]
        try omega
    · exact fin _ _ (q2+1) ⟨w.convs,w.door,w.nets++l⟩ 100803 100804 100805 100806 (by omega) ⟨.full w l c hw hm0 h3,wz_net hz (by omega) (fun p hp=>by rw [h3 p hp];simp)⟩ (by simp only [go_sem]) (by simp only [go_sem]) (by simp only [go_sem]) (by decide) (by simp only [go_sem]) (by simp only [go_sem]) (by simp only [go_sem]) (by simp only [go_sem])
  · exact fin _ _ (q+1) w 100803 100804 100805 100806 (by omega) ⟨.same w hw,hz⟩ (by simp only [go_sem]) (by simp only [go_sem]) (by simp only [go_sem]) (by decide) (by simp only [go_sem]) (by simp only [go_sem]) (by simp only [go_sem]) (by simp only [go_sem])
def drawDA (r:V) (o:List Hs):Prop:=∃ (w:M.World) (e:Ev),(Dr w∧WZ w)∧e.pkt.text.length≤50∧r=.tup [.agg [.sl 10 (w.convs.map Conv.row),.sl 3 (w.door.map.map Pair.row),.sl 8 (w.door.flows.map Flw.row),.sl 7 (w.nets.map Pk.row)],.agg [.int .i64 e.kind,.int .i64 e.a,.int .i64 e.b,.int .i64 e.c,.int .i64 e.pkt.kind,.int .i64 e.pkt.frm.a,.int .i64 e.pkt.frm.p,.int .i64 e.pkt.to.a,.int .i64 e.pkt.to.p,.int .i64 e.pkt.at_,.str e.pkt.text]]∧o=[]
theorem dr_new:∃ w:M.World,Dr w∧WZ w:=by
  obtain ⟨w1,hw1⟩:=world1
  have hp1:=PW.new hw1
  exact ⟨w1,.same w1 hp1,wi_wz hp1.1 (by have:=newConvs_len (worldNew_is hw1).2.1;simp at this;omega)⟩
def ic19:IC:=sR [oP 2 (.alloc 33 [.nils,.nils,.nils,.nils]),oP 3 (.alloc 56 [i0,i0,i0,i0,i0,i0,i0,i0,i0,i0,s0])] (sR [mV 7 0,oP 8 (.call 30 [.t 7]),mV 4 8] (sR [mV 9 4,oP 10 (.call 48 [.t 9]),oP 5 (.alloc 33 [.nils,.nils,.nils,.nils]),nP (.sto 4 (.t 5) (.t 10))] (sR [mV 11 4,lA 12 4 5,oP 13 (.call 49 [.t 11,.t 12]),oP 6 (.alloc 56 [i0,i0,i0,i0,i0,i0,i0,i0,i0,i0,s0]),nP (.sto 11 (.t 6) (.t 13))] (.seq (sR [mV 14 4,oP 15 (.call 32 [.t 14,.c (.int .i64 20)])] (.block 0 (sR [oP 17 (.bin .eql (.t 15) (.c i0)),mV 16 17] (.cond (.t 16) (.reg [oP 18 (.bsl 3 1 [.c i0,.c (.int .i64 7),.c (.int .i64 (-1))]),mV 19 4,oP 20 (.call 32 [.t 19,.c (.int .i64 3)]),oP 21 (.iad 1 (.t 18) (.t 20)),lD 22 1 21,fD 23 0 6,nP (.sto 1 (.t 23) (.t 22))]) (sR [oP 25 (.bin .eql (.t 15) (.c (.int .i64 1))),mV 24 25] (.cond (.t 24) (.reg [oP 26 (.bsl 3 1 [.c (.int .i64 (-1)),.c (.int .i64 3),.c (.int .i64 20)]),mV 27 4,oP 28 (.call 32 [.t 27,.c (.int .i64 3)]),oP 29 (.iad 1 (.t 26) (.t 28)),lD 30 1 29,fD 31 1 6,nP (.sto 1 (.t 31) (.t 30))]) (sR [oP 33 (.bin .eql (.t 15) (.c (.int .i64 2))),mV 32 33] (.cond (.t 32) (.reg [oP 34 (.bsl 3 1 [.c i0,.c (.int .i64 (-1))]),mV 35 4,oP 36 (.call 32 [.t 35,.c (.int .i64 2)]),oP 37 (.iad 1 (.t 34) (.t 36)),lD 38 1 37,fD 39 3 6,nP (.sto 1 (.t 39) (.t 38))]) .skip)))))))) (.seq (.drw [0,0,1,7] [(0,lA 40 4 5),(1,lA 41 11 6),(2,nP (.sto 4 (.t 2) (.t 40))),(3,nP (.sto 11 (.t 3) (.t 41)))]) .ret)))))
theorem dg19:Dg Tryz.prog 19 Tryz.f19 ic19 [(.cell 2 4 true),(.cell 3 11 true)]:=⟨Tryz.func19,by kernel_rfl,by kernel_rfl⟩
set_option maxHeartbeats 1000000 in
theorem c19 (code:B) (hc:code.length≤2000000):FnP Tryz.prog G 19 0 [] [.sl 1 (code.map byR)] drawDA:=by
  refine mP dg19 Tryz.ntmps19 ?_ ?_
  · obtain ⟨w1,h1⟩:=dr_new
    exact ⟨_,_,w1,⟨0,0,0,0,.zero⟩,h1,by simp [Pk.zero],rfl,rfl⟩
  have fin:∀ l mm (w:M.World) (e:Ev) (n0 n1 n2 n3:Nat),(Dr w∧WZ w)→e.pkt.text.length≤50→getL l 2=.pv 1002 0→getL l 3=.pv 1003 0 →
      getH mm 1002=.var 33 [.own n0 w.convs.length,.own n1 w.door.map.length,.own n2 w.door.flows.length,.own n3 w.nets.length]→getH mm 1003=.var 56 (Ev.row e) →
      getH mm n0=.arr 41 10 (w.convs.map Conv.row)→getH mm n1=.arr 64 3 (w.door.map.map Pair.row)→getH mm n2=.arr 46 8 (w.door.flows.map Flw.row)→getH mm n3=.arr 54 7 (w.nets.map Pk.row) →
      retQ [.cell 2 4 true,.cell 3 11 true] 0 drawDA .ret ⟨getL l,getH mm⟩:=fun l mm w e n0 n1 n2 n3 h1 h2 h3 h4 h5 h6 g1 g2 g3 g4=>by
    refine retN (.tup [.agg [.sl 10 (w.convs.map Conv.row),.sl 3 (w.door.map.map Pair.row),.sl 8 (w.door.flows.map Flw.row),.sl 7 (w.nets.map Pk.row)],.agg [.int .i64 e.kind,.int .i64 e.a,.int .i64 e.b,.int .i64 e.c,.int .i64 e.pkt.kind,.int .i64 e.pkt.frm.a,.int .i64 e.pkt.frm.p,.int .i64 e.pkt.to.a,.int .i64 e.pkt.to.p,.int .i64 e.pkt.at_,.str e.pkt.text]]) [] [] ?_ ⟨w,e,h1,h2,rfl,rfl⟩ (by simp only [go_sem]) (by simp [argH]) (by simp only [go_sem])
    simp only [go_sem,h3,h4,h5,h6,g1,g2,g3,g4]
    try simp [Ev.row,Pk.row]
  have hcl:(code.take 2000).length≤2000:=by simp;omega
  simp only [ic19,go_sem]
  refine callO (c30 code hc) [] 8 1 (by simp only [go_sem];first|done|simp) (by simp) (by rintro _ _ ⟨rfl,rfl⟩;simp) (by intro i hi;obtain rfl:i=0:=(by omega);simp only [go_sem]) ?_
  rintro _ _ ⟨rfl,rfl⟩
  generalize code.take 2000=cd at *
  simp only [go_sem,rdH]
  refine callN (c48 cd 0 hcl (by omega)) [100800] [] true 10 5 (by simp only [go_sem,rdH];first|done|simp) (by simp only [go_sem,rdH];first|done|simp) (by simp) (by simp) (by simp) ?_ ?_ ?_
  · rintro _ _ ⟨q',_,_,_,_,rfl⟩
    exact ⟨by simp,by simp,.inl rfl,fun i hi=>by obtain rfl:i=0:=(by omega);simp [chH,stepOk,rdH]⟩
  · intro i hi;rcases (show i=0∨i=1∨i=2∨i=3∨i=4 by omega) with rfl|rfl|rfl|rfl|rfl<;>simp only [go_sem]
  rintro _ _ ⟨q,w,hq,hdw,rfl,rfl⟩
  obtain ⟨hd,hz⟩:=id hdw
  have z1:=hz.c1
  have z3:=hz.c3
  have zn:=hz.n
  simp only [go_sem,rdH]
  with_reducible repeat' (first|rw [i64w (by omega)];try simp only [go_sem]|refine br ?_ ?_<;>intro h e<;>(try simp only [e,go_sem])<;>clear e|refine sd ?_<;>try simp only [go_sem]|fail)
  refine callN (c49 cd q w hcl (by omega) (by omega) (by omega) hz.a) [100800,101001,101002,101003,101004] [] true 13 5 (by simp only [go_sem,rdH];first|done|simp) (by simp only [go_sem,rdH];first|done|simp) (by simp) (by simp) (by simp) ?_ ?_ ?_
  · rintro _ _ ⟨q',_,rfl,_⟩
    exact ⟨by simp,by simp,.inl rfl,fun i hi=>by rcases (show i=0∨i=1∨i=2∨i=3∨i=4 by omega) with rfl|rfl|rfl|rfl|rfl<;>simp [chH,stepOk,rdH]⟩
  · intro i hi;rcases (show i=0∨i=1∨i=2∨i=3∨i=4 by omega) with rfl|rfl|rfl|rfl|rfl<;>simp only [go_sem]
  rintro _ _ ⟨q3,hq3,rfl,e,he,rfl⟩
  simp only [go_sem,rdH]
  with_reducible repeat' (first|rw [i64w (by omega)];try simp only [go_sem]|refine br ?_ ?_<;>intro h e<;>(try simp only [e,go_sem])<;>clear e|refine sd ?_<;>try simp only [go_sem]|fail)
  refine callN (c32 cd q3 20 hcl (by omega) (by omega)) [100800] [] true 15 1 (by simp only [go_sem,rdH];first|done|simp) (by simp only [go_sem,rdH];first|done|simp) (by simp) (by simp) (by simp) ?_ ?_ ?_
  · rintro _ _ ⟨k,_,_,rfl,rfl⟩;exact ⟨by simp,by simp,.inl rfl,fun i hi=>by obtain rfl:i=0:=(by omega);simp [chH,stepOk,rdH]⟩
  · intro i hi;obtain rfl:i=0:=(by omega);simp only [go_sem]
  rintro _ _ ⟨x,x1,x2,rfl,rfl⟩
  simp only [go_sem,rdH]
  with_reducible repeat' (first|rw [i64w (by omega)];try simp only [go_sem]|refine br ?_ ?_<;>intro h e<;>(try simp only [e,go_sem])<;>clear e|refine sd ?_<;>try simp only [go_sem]|fail)
  · have:=0
    refine callN (c32 cd (q3+1) 3 hcl (by omega) (by omega)) [100800] [] true 20 1 (by simp only [go_sem,rdH];first|done|simp) (by simp only [go_sem,rdH];first|done|simp) (by simp) (by simp) (by simp) ?_ ?_ ?_
    · rintro _ _ ⟨k,_,_,rfl,rfl⟩;exact ⟨by simp,by simp,.inl rfl,fun i hi=>by obtain rfl:i=0:=(by omega);simp [chH,stepOk,rdH]⟩
    · intro i hi;obtain rfl:i=0:=(by omega);simp only [go_sem]
    rintro _ _ ⟨d,d1,d2,rfl,rfl⟩
    have d2:=d2 (by omega)
    simp only [go_sem,rdH]
    rcases (show d=0∨d=1∨d=2 by omega) with rfl|rfl|rfl
    · have:=0
      with_reducible repeat' (first|rw [i64w (by omega)];try simp only [go_sem]|refine br ?_ ?_<;>intro h e<;>(try simp only [e,go_sem])<;>clear e|refine sd ?_<;>try simp only [go_sem]|fail)
      exact fin _ _ w { e with kind:=0 } 101001 101002 101003 101004 hdw he (by simp only [go_sem]) (by simp only [go_sem]) (by simp only [go_sem]) (by simp only [go_sem];first|done|simp [Ev.row,Pk.row]) (by simp only [go_sem]) (by simp only [go_sem]) (by simp only [go_sem]) (by simp only [go_sem])
    · have:=0
      with_reducible repeat' (first|rw [i64w (by omega)];try simp only [go_sem]|refine br ?_ ?_<;>intro h e<;>(try simp only [e,go_sem])<;>clear e|refine sd ?_<;>try simp only [go_sem]|fail)
      exact fin _ _ w { e with kind:=7 } 101001 101002 101003 101004 hdw he (by simp only [go_sem]) (by simp only [go_sem]) (by simp only [go_sem]) (by simp only [go_sem];first|done|simp [Ev.row,Pk.row]) (by simp only [go_sem]) (by simp only [go_sem]) (by simp only [go_sem]) (by simp only [go_sem])
    · have:=0
      with_reducible repeat' (first|rw [i64w (by omega)];try simp only [go_sem]|refine br ?_ ?_<;>intro h e<;>(try simp only [e,go_sem])<;>clear e|refine sd ?_<;>try simp only [go_sem]|fail)
      exact fin _ _ w { e with kind := -1 } 101001 101002 101003 101004 hdw he (by simp only [go_sem]) (by simp only [go_sem]) (by simp only [go_sem]) (by simp only [go_sem];first|done|simp [Ev.row,Pk.row]) (by simp only [go_sem]) (by simp only [go_sem]) (by simp only [go_sem]) (by simp only [go_sem])
  · have:=0
    refine callN (c32 cd (q3+1) 3 hcl (by omega) (by omega)) [100800] [] true 28 1 (by simp only [go_sem,rdH];first|done|simp) (by simp only [go_sem,rdH];first|done|simp) (by simp) (by simp) (by simp) ?_ ?_ ?_
    · rintro _ _ ⟨k,_,_,rfl,rfl⟩;exact ⟨by simp,by simp,.inl rfl,fun i hi=>by obtain rfl:i=0:=(by omega);simp [chH,stepOk,rdH]⟩
    · intro i hi;obtain rfl:i=0:=(by omega);simp only [go_sem]
    rintro _ _ ⟨d,d1,d2,rfl,rfl⟩
    have d2:=d2 (by omega)
    simp only [go_sem,rdH]
    rcases (show d=0∨d=1∨d=2 by omega) with rfl|rfl|rfl
    · have:=0
      with_reducible repeat' (first|rw [i64w (by omega)];try simp only [go_sem]|refine br ?_ ?_<;>intro h e<;>(try simp only [e,go_sem])<;>clear e|refine sd ?_<;>try simp only [go_sem]|fail)
      exact fin _ _ w { e with a := -1 } 101001 101002 101003 101004 hdw he (by simp only [go_sem]) (by simp only [go_sem]) (by simp only [go_sem]) (by simp only [go_sem];first|done|simp [Ev.row,Pk.row]) (by simp only [go_sem]) (by simp only [go_sem]) (by simp only [go_sem]) (by simp only [go_sem])
    · have:=0
      with_reducible repeat' (first|rw [i64w (by omega)];try simp only [go_sem]|refine br ?_ ?_<;>intro h e<;>(try simp only [e,go_sem])<;>clear e|refine sd ?_<;>try simp only [go_sem]|fail)
      exact fin _ _ w { e with a:=3 } 101001 101002 101003 101004 hdw he (by simp only [go_sem]) (by simp only [go_sem]) (by simp only [go_sem]) (by simp only [go_sem];first|done|simp [Ev.row,Pk.row]) (by simp only [go_sem]) (by simp only [go_sem]) (by simp only [go_sem]) (by simp only [go_sem])
    · have:=0
      with_reducible repeat' (first|rw [i64w (by omega)];try simp only [go_sem]|refine br ?_ ?_<;>intro h e<;>(try simp only [e,go_sem])<;>clear e|refine sd ?_<;>try simp only [go_sem]|fail)
      exact fin _ _ w { e with a:=20 } 101001 101002 101003 101004 hdw he (by simp only [go_sem]) (by simp only [go_sem]) (by simp only [go_sem]) (by simp only [go_sem];first|done|simp [Ev.row,Pk.row]) (by simp only [go_sem]) (by simp only [go_sem]) (by simp only [go_sem]) (by simp only [go_sem])
  · have:=0
    refine callN (c32 cd (q3+1) 2 hcl (by omega) (by omega)) [100800] [] true 36 1 (by simp only [go_sem,rdH];first|done|simp) (by simp only [go_sem,rdH];first|done|simp) (by simp) (by simp) (by simp) ?_ ?_ ?_
    · rintro _ _ ⟨k,_,_,rfl,rfl⟩;exact ⟨by simp,by simp,.inl rfl,fun i hi=>by obtain rfl:i=0:=(by omega);simp [chH,stepOk,rdH]⟩
    · intro i hi;obtain rfl:i=0:=(by omega);simp only [go_sem]
    rintro _ _ ⟨d,d1,d2,rfl,rfl⟩
    have d2:=d2 (by omega)
    simp only [go_sem,rdH]
    rcases (show d=0∨d=1 by omega) with rfl|rfl
    · have:=0
      with_reducible repeat' (first|rw [i64w (by omega)];try simp only [go_sem]|refine br ?_ ?_<;>intro h e<;>(try simp only [e,go_sem])<;>clear e|refine sd ?_<;>try simp only [go_sem]|fail)
      exact fin _ _ w { e with c:=0 } 101001 101002 101003 101004 hdw he (by simp only [go_sem]) (by simp only [go_sem]) (by simp only [go_sem]) (by simp only [go_sem];first|done|simp [Ev.row,Pk.row]) (by simp only [go_sem]) (by simp only [go_sem]) (by simp only [go_sem]) (by simp only [go_sem])
    · have:=0
      with_reducible repeat' (first|rw [i64w (by omega)];try simp only [go_sem]|refine br ?_ ?_<;>intro h e<;>(try simp only [e,go_sem])<;>clear e|refine sd ?_<;>try simp only [go_sem]|fail)
      exact fin _ _ w { e with c := -1 } 101001 101002 101003 101004 hdw he (by simp only [go_sem]) (by simp only [go_sem]) (by simp only [go_sem]) (by simp only [go_sem];first|done|simp [Ev.row,Pk.row]) (by simp only [go_sem]) (by simp only [go_sem]) (by simp only [go_sem]) (by simp only [go_sem])
  · exact fin _ _ w e 101001 101002 101003 101004 hdw he (by simp only [go_sem]) (by simp only [go_sem]) (by simp only [go_sem]) (by simp only [go_sem];first|done|simp [Ev.row,Pk.row]) (by simp only [go_sem]) (by simp only [go_sem]) (by simp only [go_sem]) (by simp only [go_sem])
theorem tmod_nat (a b:Nat) (h:0<b):∃ n:Nat,(a:Int).tmod (b:Int)=(n:Int)∧n<b:=by
  refine ⟨((a:Int).tmod b).toNat, ?_, ?_⟩
  · have:=Int.tmod_nonneg (b:Int) (show (0:Int)≤a by omega);omega
  · have:=Int.tmod_nonneg (b:Int) (show (0:Int)≤a by omega)
    have:=Int.tmod_lt_of_pos (a:Int) (show (0:Int)<b by omega);omega
theorem wx_wb {X:List (E × E)} {w:M.World} (h:WX X w):WB w:=by
  have hs:=wx_ws h
  exact ⟨hs.cl,hs.nl,hs.db.1,hs.db.2.1,copyC h.door⟩
theorem do_wb {w:M.World} (h:Dr w) (e:Ev):WB (worldDo w e):=by
  cases hok:worldOk w with
  | false=>rw [(worldDo_e w e).2 hok];exact zeroWB
  | true =>
    obtain ⟨X,hx⟩:=h.q hok
    rw [(worldDo_e w e).1 hok]
    exact wx_wb (hx.do e).x
theorem wx_map {X:List (E × E)} {w:M.World} (h:WX X w):w.door.map.length≤8:=(mapOk_ports (doorOk_iff.1 h.door).1).2
theorem lzM {X:List (E × E)} {w:M.World} (h:WX X w):FnR Tryz.prog G 24 [.sl 3 (w.door.map.map Pair.row),.sl 3 (w.door.map.map Pair.row)] (.bool true):=c24 w.door.map (by have:=wx_map h;omega)
theorem lzD {X:List (E × E)} {w:M.World} (h:WX X w):FnR Tryz.prog G 25 [.agg [.sl 3 (w.door.map.map Pair.row),.sl 8 (w.door.flows.map Flw.row)],.agg [.sl 3 (w.door.map.map Pair.row),.sl 8 (w.door.flows.map Flw.row)]] (.bool true):=by
  have hb:=wx_wb h
  obtain ⟨h1,h2,h3,h4,h5⟩:=hb
  exact c25 w.door h3 h4 h5
theorem lzD2 {X:List (E × E)} {w:M.World} (h:WX X w) {d:Door} (e:d=w.door):FnR Tryz.prog G 25 [.agg [.sl 3 (d.map.map Pair.row),.sl 8 (d.flows.map Flw.row)],.agg [.sl 3 (w.door.map.map Pair.row),.sl 8 (w.door.flows.map Flw.row)]] (.bool true):=by
  subst e
  exact lzD h
theorem port_step {m:List Pair} (hm:mapOk m=true) {i:Nat} (h:i<m.length) (e:E):portOf (m.take (i+1)) e=if m[i].ins=e then m[i].port else portOf (m.take i) e:=by
  have hu:=((mapOk_iff.1 hm).2 i _ (List.getElem?_eq_getElem h)).2.2
  rw [List.take_add_one,List.getElem?_eq_getElem h]
  generalize m.take i=l at *
  generalize m[i]=p at *
  unfold portOf
  rw [List.find?_append]
  cases hf:l.find? fun p=>decide (p.ins=e) with
  | some q =>
    have hq:=List.find?_some hf
    have hqm:=List.mem_of_find?_eq_some hf
    simp only [decide_eq_true_eq] at hq
    have hne:¬ p.ins=e:=fun he=>by
      have:=List.any_eq_false.1 hu q hqm
      simp [hq,he] at this
    simp [hne]
  | none =>
    by_cases he:p.ins=e<;>simp [he]
end Go.Proofs.YtggifndkolojmaaGreatDoor.W
