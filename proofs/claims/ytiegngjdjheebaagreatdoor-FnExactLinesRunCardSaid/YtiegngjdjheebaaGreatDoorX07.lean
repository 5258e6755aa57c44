/- Part 7 of the proof: the walk over values, the plain model, contracts of the functions of the program. -/
import Derived.Test.YtiegngjdjheebaaGreatDoorX04
import Derived.Test.YtiegngjdjheebaaGreatDoorX06
import Derived.Test.YtiegngjdjheebaaGreatDoorX03
set_option linter.all false
namespace Go.Proofs.YtiegngjdjheebaaGreatDoor.W
open Go Go.RowKit Go.Proofs Go.Proofs.YtiegngjdjheebaaGreatDoor.VL Go.Proofs.YtiegngjdjheebaaGreatDoor.M
attribute [local congr] optK_congr guardK_congr condK_congr runT_congr runD_congr wpI_congr CallV_congr LoopI_congr pureK_congr effK_congr calK_congr stepV_congr doV_congr exN_congr exB_congr retF_congr retQ_congr gK_congr condW_congr ldK_congr stoK_congr
attribute [local go_sem] argL_cons argL_nil argH_nil argH_cons chH_getH wpI_seq wpI_reg wpI_drw wpI_ret cond_k condW_t condW_f wpI_skip wpI_block wpI_exit wpI_loop exN_n exN_r exN_e exB_n exB_r exB_h exB_m runT_k kT_e runT_nil runD_k kD_e runD_nil step_u step_k gK_t gK_f do_mv do_bino bo_add bo_sub bo_mul bo_subu bo_quo bo_rem bo_xor bo_eql bo_neq bo_lss bo_leq bo_gtr bo_geq bo_cat bo_eqs bo_nes do_pick do_call do_cal calK_f do_box do_alloc do_ldk ldK_s do_stok stoK_s do_fad do_nilc do_not do_neg do_len do_lens do_ext do_eqs do_beq do_isn do_cvi do_sls do_idx do_mn do_mx do_build do_mkf do_s2b do_b2s do_slv do_iad do_bsl do_mks do_app do_aps apsG_s ev_t ev_c app_some app_none
attribute [local go_sem] List.nil_append List.cons_append List.append_nil getL_hit getL_miss getH_nil getH_hit getH_miss nm_eq ne_eq Nat.reduceEqDiff not_false_eq_true Nat.reduceAdd Nat.add_zero Nat.zero_add if_true if_false ite_true ite_false pureK_s effK_s optK_s gdV_t gdV_f gdV_s pick_b ge_iff_le gt_iff_lt cond_true cond_false fresh_k cells_agg cells_int cells_bool cells_str cells_own cells_sl cells_nils ld_pv ld_pa ld_ip ldVar_t ldVar_f ldArr_t ldArr_f ldRow_t ldRow_f ldA_s ld1_s fad_pv fad_pa fad_ip nilc_pv nilc_pa nilc_ip not_b neg_i cvi_i ext_t retF_n retF_r
attribute [local go_sem] resV_k rvs_nil rvs_t rvs_c fstO_s consO_s resK_s resL_1 resL_2 resL_3 resL_4  Option.some.injEq List.map_cons List.map_nil List.all_cons List.all_nil Bool.and_true Bool.and_self Bool.not_true Bool.not_false Option.map_some Option.map_none sls_s slsG_s loV_n loV_i hiV_n hiV_i idx_s mn_i mx_i s2b_s b2s_s bytO_s bytes_nil bytes_cons conB_s slv_sl slv_own slv_nils slvG_s slvN_s slvO_s iad_sl iadG_map take_map drop_map List.length_map iad_own iad_view iadO_a iadW_a mks_i rowO_nils rowO_sl rowO_own rowA_a eq_self appG_nils appG_own appO_a guardP_T mapA_s bld_nil mkf_nil bldF_e fill_nil fill_cons mkf_e lens_s len_nils len_sl len_own len_view isn_nile isn_erre List.getElem?_cons_zero List.getElem?_cons_succ List.length_cons List.length_nil decide_true decide_false Int.toNat_natCast Int.cast_ofNat_Int Int.reduceLT Int.reduceLE Int.reduceEq Int.reduceAdd Int.reduceSub Int.reduceMul Int.reduceNeg Int.reduceToNat List.getD_cons_zero List.getD_cons_succ not_true_eq_false not_false_eq_true Bool.false_eq_true Bool.true_eq_false reduceCtorEq
attribute [local go_sem] E.row Pc.row Pair.row Part.row Strm.row Flw.row Pk.row Door.row Conv.row World.row Ev.row rdV E.eta Pc.eta Pair.eta Part.eta Strm.eta Pk.eta Flw.eta Conv.eta Door.eta World.eta Ev.eta
attribute [local go_sem] sub_ok st_pv st_pa stVar_v stArr_a Nat.le_refl List.drop_zero List.drop_succ_cons List.take_succ_cons List.take_zero setR Nat.reduceLeDiff
attribute [local go_sem] wk_bot wk2_bot wk1_bot wk_undef wk_tup_e wk2_agg_e wk_agg_e wk1_fn_e wk2_fn_e wk_fn_e wkl_nil wkl_cons wkh_var_e wkh_arr_e wkh_fresh_e wkh_dead_v wkh_dead_a wkh_dead_d wk0_undef wk0_int wk0_bool wk0_str wk0_nils wk0_nils_sl wk0_nilp wk0_nile wk0_erre wk0_sl wk0_iptr wk0_own wk0_view wk0_pv wk0_pa fzA_a fzW_a fzP_v wk0_own_sl wk0_view_sl wk0_pv_iptr WkS_nil WkS_cons WkN_nil WkN_cons nonB_nil nonB_cons getN_nil getN_hit getN_miss pinOk_0 pinOk_s and_true true_and and_self
attribute [local go_sem] bot_int one_int unt_int clo_int bot_bool one_bool unt_bool clo_bool bot_str one_str unt_str clo_str bot_nils one_nils unt_nils clo_nils bot_nilp one_nilp unt_nilp clo_nilp bot_nile one_nile unt_nile clo_nile bot_erre one_erre unt_erre clo_erre bot_raw one_raw unt_raw clo_raw bot_sl one_sl unt_sl clo_sl bot_own one_own unt_own clo_own bot_view one_view unt_view clo_view bot_pv one_pv unt_pv clo_pv bot_pa one_pa unt_pa clo_pa bot_iptr one_iptr unt_iptr clo_iptr unt_agg unt_fn one_fn
attribute [local go_sem] rn_tup rn_agg rn2_agg rn_fn rn2_fn rnfn1 rn_bot rn2_bot rn1_bot rn0_int rn0_bool rn0_str rn0_nils rn0_nilp rn0_nile rn0_erre rn0_sl rn0_iptr rn0_own rn0_view rn0_pv rn0_pa hrn_var hrn_arr hrn_dead outU_nil outU_cons deads_nil deads_cons bk_ge bk_lt nsF_0 nsF_s chH_0 chH_s chH_n newN_e andB_s eqR_nil eqR_i eqR_b eqR_s mapX_f mapX_t eqs_a beq_f beq_t live_arr live_var nsl_nil nsl_cons Nat.reduceMul Nat.reduceLT Nat.zero_le Nat.not_lt_zero
attribute [local go_sem] mV lD lA fD bN eX oP nP sR i0 s0
theorem words_hd (t:B):∃h r,cutAll 32 t=h::r:=by
 cases h:cutAll 32 t with
 | nil=>exact absurd h (cutAll_ne 32 t)
 | cons a b=>exact⟨a,b,rfl⟩
theorem o58 {X:List (E×E)} (w:M.World) (hx:WX X w) (hok:worldOk w=true):FnP Tryz.prog G 58 0 [] [.agg [.sl 10 (w.convs.map Conv.row),.sl 3 (w.door.map.map Pair.row),.sl 8 (w.door.flows.map Flw.row),.sl 7 (w.nets.map Pk.row)],.int .i64 1] (worldA (M.round w)):=by
 refine mP dg58 Tryz.ntmps58 ⟨_,_,rfl,rfl⟩ ?_
 have f1:=c102 w (wx_ws hx)
 have f2:FnR Tryz.prog G 100 [.int .i64 1,.int .i64 0,.int .i64 6] (.bool true):=c100 1 0 6
 rw[hok] at f1
 simp only[ic58,go_sem]
 with_reducible repeat' (first|refine br ?_ ?_<;>intro h e<;>(try simp only[e,go_sem])<;>clear e|rw[i64w (by omega)]|refine sd ?_<;>try simp only[go_sem]|(first|refine cr (f1 ..) ?_|refine cr (f2 ..) ?_)<;>try simp only[go_sem]|fail)
 refine callO (c103 w hx) [] 17 4 (by simp only[go_sem];first|done|simp) (by simp) (by rintro _ _ ⟨rfl,rfl⟩;simp) (by intro i hi;rcases(show i=0∨i=1∨i=2∨i=3 by omega) with rfl|rfl|rfl|rfl<;>simp only[go_sem]) ?_
 rintro _ _ ⟨rfl,rfl⟩
 simp only[go_sem]
 with_reducible repeat' (first|refine br ?_ ?_<;>intro h e<;>(try simp only[e,go_sem])<;>clear e|rw[i64w (by omega)]|refine sd ?_<;>try simp only[go_sem]|fail)
 refine loopN (fun a:Nat×M.World=>⟨getL [(1,.int .i64 1),(4,.pv 1004 0),(5,.pv 1005 0),(6,.int .i64 (a.1:Int))],getH [(1004,.var 41 [.nils,.nils,.nils,.nils]),(1005,.var 41 [.own 101700 a.2.convs.length,.own 101701 a.2.door.map.length,.own 101702 a.2.door.flows.length,.own 101703 a.2.nets.length]),(101700,.arr 47 10 (a.2.convs.map Conv.row)),(101701,.arr 88 3 (a.2.door.map.map Pair.row)),(101702,.arr 181 8 (a.2.door.flows.map Flw.row)),(101703,.arr 70 7 (a.2.nets.map Pk.row))]⟩)
  (fun a=>1 - a.1) (fun a=>a.1≤1∧WX X a.2∧rounds 1 w=rounds (1 - a.1) a.2) (0,w) (leQ []) ⟨Nat.zero_le _,hx,rfl⟩ ?_
 intro⟨k,v⟩ ⟨hk,hv,he⟩
 simp only at hk hv he
 simp only[go_sem]
 by_cases h:(k:Int)<1
 ·rw[show 1 - k=(1 - (k+1))+1 by omega] at he
  simp only[eq_true h,go_sem]
  with_reducible repeat' (first|refine br ?_ ?_<;>intro h e<;>(try simp only[e,go_sem])<;>clear e|rw[i64w (by omega)]|refine sd ?_<;>try simp only[go_sem]|fail)
  refine callU (x104 v hv) [101700,101701,101702,101703] [] 24 4 (by simp only[go_sem];first|done|simp) (by simp only[go_sem];first|done|simp) (by simp) (by simp) (by rintro _ _ ⟨rfl,rfl⟩;simp) (by intro i hi;rcases(show i=0∨i=1∨i=2∨i=3 by omega) with rfl|rfl|rfl|rfl<;>simp only[go_sem]) ?_
  rintro _ _ ⟨rfl,rfl⟩
  simp only[go_sem]
  have hv2:=hv.round
  rw[show rounds (1 - (k+1)+1) v=rounds (1 - (k+1)) (M.round v) from rfl] at he
  generalize M.round v=v2 at *
  with_reducible repeat' (first|rw[i64w (by omega)];try simp only[go_sem]|refine br ?_ ?_<;>intro h e<;>(try simp only[e,go_sem])<;>clear e|refine sd ?_<;>try simp only[go_sem]|fail)
  exact⟨(k+1,v2),by simp only;omega,⟨by simp only;omega,hv2,he⟩,(leQ [(101700,102400),(101701,102401),(101702,102402),(101703,102403)])⟩
 ·simp only[eq_false h,go_sem]
  obtain rfl:k=1:=by omega
  rw[show rounds 1 w=M.round w from rfl,show rounds (1 - 1) v=v from rfl] at he
  rw[he]
  with_reducible repeat' (first|refine br ?_ ?_<;>intro h e<;>(try simp only[e,go_sem])<;>clear e|rw[i64w (by omega)]|refine sd ?_<;>try simp only[go_sem]|fail)
  exact worldRet (d:=4) (c:=1004) 101700 101701 101702 101703 (by simp only[go_sem]) (by simp only[go_sem]) (by simp only[go_sem]) (by simp only[go_sem]) (by simp only[go_sem]) (by simp only[go_sem]) (by decide)
theorem endB {c:Conv} (h:convOk c=true):(0≤c.upAck∧c.upAck<100)∧(0≤c.downAck∧c.downAck<100)∧c.upGot.length≤200∧c.downGot.length≤200:=by
 have hb:=convOk_B h
 have h1:=hb.up;have h2:=hb.down;have h3:=hb.upGot;have h4:=hb.downGot;have h5:=hb.upAck;have h6:=hb.downAck
 omega
def ic32:IC:=sR [oP 1 (.box 41 (.t 0)),oP 2 (.mv (.c s0))] (sR [fD 4 0 1,lD 5 1 4,oP 6 (.iad 10 (.t 5) (.c i0)),lA 7 10 6,oP 3 (.alloc 47 [i0,i0,i0,i0,s0,s0,i0,i0,s0,s0]),nP (.sto 10 (.t 3) (.t 7))] (.seq (.drw [0,1,3,7,15,0,32,127,255,0,512,1543,4095,8191,0,16384,65535,131071,262143] [(0,fD 8 6 3),(1,lD 9 1 8),(2,oP 10 (.call 34 [.t 9])),(3,oP 11 (.bin .add (.c (.str [117,112,32])) (.t 10))),(4,oP 12 (.bin .add (.t 11) (.c (.str [32])))),(5,fD 13 8 3),(6,lD 14 1 13),(7,bN 15 .add 12 14),(8,oP 16 (.bin .add (.t 15) (.c (.str [10,100,111,119,110,32])))),(9,fD 17 7 3),(10,lD 18 1 17),(11,oP 19 (.call 34 [.t 18])),(12,bN 20 .add 16 19),(13,oP 21 (.bin .add (.t 20) (.c (.str [32])))),(14,fD 22 9 3),(15,lD 23 1 22),(16,bN 24 .add 21 23),(17,oP 25 (.bin .add (.t 24) (.c (.str [10])))),(18,mV 2 25)]) .ret))
theorem dg32:Dg Tryz.prog 32 Tryz.f32 ic32 [(.t 2)]:=⟨Tryz.func32,by kernel_rfl,by kernel_rfl⟩
theorem c32 (w:M.World) (c:Conv) (hc:w.convs=[c]) (hok:convOk c=true):FnR Tryz.prog G 32 [.agg [.sl 10 (w.convs.map Conv.row),.sl 3 (w.door.map.map Pair.row),.sl 8 (w.door.flows.map Flw.row),.sl 7 (w.nets.map Pk.row)]] (.str (linesEnd w)):=by
 refine mF dg32 Tryz.ntmps32 ?_
 obtain⟨h1,h2,h3,h4⟩:=endB hok
 have f1:=c34 c.upAck h1
 have f2:=c34 c.downAck h2
 have l1:=dec_le2 c.upAck
 have l2:=dec_le2 c.downAck
 have e:linesEnd w=[117,112,32]++(dec c.upAck++(32::(c.upGot++(10::([100,111,119,110,32]++(dec c.downAck++(32::(c.downGot++[10])))))))):=by simp only[linesEnd,hc]
 rw[e,hc]
 generalize dec c.upAck=x at *
 generalize dec c.downAck=y at *
 simp only[ic32,go_sem,iadG_e,List.length_cons,List.length_nil]
 with_reducible repeat' (first|refine br ?_ ?_<;>intro h e<;>(try simp only[e,go_sem,iadG_e,List.length_append,List.length_cons,List.length_nil,Nat.zero_add,Int.natCast_add,Int.natCast_one])<;>clear e|rw[i64w (by omega)]|refine sd ?_<;>try simp only[go_sem,iadG_e,List.length_append,List.length_cons,List.length_nil,Nat.zero_add,Int.natCast_add,Int.natCast_one]|(first|refine cr (f1 ..) ?_|refine cr (f2 ..) ?_)<;>try simp only[go_sem,iadG_e,List.length_append,List.length_cons,List.length_nil,Nat.zero_add,Int.natCast_add,Int.natCast_one]|fail)
 all_goals first|done|(simp;done)|skip
theorem joinL_step {α:Type} (l:List α) (f:α→B) (k:Nat) (h:k<l.length):joinL ((l.take (k+1)).map f)=joinL ((l.take k).map f)++(f l[k]++[10]):=by
 rw[List.take_add_one,List.getElem?_eq_getElem h,List.map_append,joinL_app]
 simp only[Option.toList_some,List.map_cons,List.map_nil]
 rw[show joinL [f l[k]]=f l[k]++[10] by simp[joinL]]
def lineA (x:M.World×B) (r:V) (out:List Hs):Prop:=r=.tup [.agg [.own 0 x.1.convs.length,.own 1 x.1.door.map.length,.own 2 x.1.door.flows.length,.own 3 x.1.nets.length],.str x.2]∧out=[.arr 47 10 (x.1.convs.map Conv.row),.arr 88 3 (x.1.door.map.map Pair.row),.arr 181 8 (x.1.door.flows.map Flw.row),.arr 70 7 (x.1.nets.map Pk.row)]
theorem lineRet {x:M.World×B} {w:M.World} {s:B} {l:List (Nat×V)} {mm:List (Nat×Hs)} (n0 n1 n2 n3:Nat) (hx:x=(w,s)) (h4:getL l 4=.pv 1004 0) (h5:getL l 5=.str s)
 (m4:getH mm 1004=.var 41 [.own n0 w.convs.length,.own n1 w.door.map.length,.own n2 w.door.flows.length,.own n3 w.nets.length])
 (m0:getH mm n0=.arr 47 10 (w.convs.map Conv.row)) (m1:getH mm n1=.arr 88 3 (w.door.map.map Pair.row)) (m2:getH mm n2=.arr 181 8 (w.door.flows.map Flw.row)) (m3:getH mm n3=.arr 70 7 (w.nets.map Pk.row))
 (hne:[n0,n1,n2,n3].Nodup):retQ [.cell 4 4 true,.t 5] 0 (lineA x) .ret ⟨getL l,getH mm⟩:=by
 subst hx
 refine retN (.tup [.agg [.own 0 w.convs.length,.own 1 w.door.map.length,.own 2 w.door.flows.length,.own 3 w.nets.length],.str s]) [.arr 47 10 (w.convs.map Conv.row),.arr 88 3 (w.door.map.map Pair.row),.arr 181 8 (w.door.flows.map Flw.row),.arr 70 7 (w.nets.map Pk.row)] [(0,n0),(1,n1),(2,n2),(3,n3)] ?_ ⟨rfl,rfl⟩ ?_ (by simpa[argH,getN] using hne) (by simp only[go_sem])
 ·simp only[go_sem,h4,h5,m4]
 ·simp only[go_sem,m0,m1,m2,m3]
theorem wDo_none (w:M.World):wDo w ⟨6,0,0,0,.zero⟩=w:=by
 have:stranger w .zero=false:=by
  have:pkOk .zero=false:=by decide
  simp[stranger,this]
 simp[wDo,this]
theorem lineDo_h (w:M.World) (line:B) {h:B} {r:List B} (hc:cutAll 32 line=h::r):lineDo w line =
 (if h=[117,112] then(wDo w ⟨1,0,wordAt (h::r) 1,wordAt (h::r) 2,.zero⟩,[])
 else if h=[100,111,119,110] then(wDo w ⟨2,0,wordAt (h::r) 1,wordAt (h::r) 2,.zero⟩,[])
 else if h=[98,114,105,110,103] then(wDo w ⟨3,wordAt (h::r) 1,0,0,.zero⟩,[])
 else if h=[108,111,115,101] then(wDo w ⟨4,wordAt (h::r) 1,0,0,.zero⟩,[])
 else if h=[116,119,105,99,101] then(wDo w ⟨5,wordAt (h::r) 1,0,0,.zero⟩,[])
 else if h=[102,111,114,103,101] then(wDo w ⟨6,0,0,0,(pktRead (line.drop 6)).getD .zero⟩,[])
 else if h=[99,97,108,109] then(M.round w,[])
 else if h=[109,97,112] then(w,joinL (w.door.map.map fun p=>dec p.port++(32::p.ins.text))++(decN w.door.map.length++[10]))
 else if h=[110,101,116,115] then(w,joinL (w.nets.map pktText)++(decN w.nets.length++[10]))
 else(w,[119,104,97,116,10])):=by
 unfold lineDo
 simp only[hc,List.headD_cons]
 cases hp:pktRead (line.drop 6) with
 | some p=>rfl
 | none=>simp only[Option.getD_none,wDo_none]
theorem pktRead_text {t:B} {p:Pk} (h:pktRead t=some p) (hl:t.length≤100000):((pktRead t).getD .zero).text.length≤100:=by
 obtain⟨e,hl2⟩:=pktRead_is h
 rw[h,Option.getD_some]
 by_cases ht:t=[]
 ·subst ht
  simp[pktRead,cutAll] at h
 ·have:=(pkOk_P (pktText_ne e ht)).len
  omega
theorem pktRead_tl (t:B) (hl:t.length≤100000):((pktRead t).getD .zero).text.length≤100:=by
 cases h:pktRead t with
 | none=>simp[Pk.zero]
 | some p =>
   have:=pktRead_text h hl
   rwa [h] at this
def ic31:IC:=sR [oP 2 (.box 41 (.t 0)),oP 4 (.alloc 41 [.nils,.nils,.nils,.nils]),oP 5 (.mv (.c s0))] (sR [mV 14 1,oP 15 (.call 30 [.t 14,.c (.int .u8 32)]),mV 6 15] (sR [mV 16 6,oP 17 (.call 56 [.t 16,.c (.int .i64 1)]),mV 18 6,oP 19 (.call 56 [.t 18,.c (.int .i64 2)]),oP 20 (.build [i0,i0,i0,i0,i0,i0,i0,i0,i0,i0,s0] [(2,(1,.t 17)),(3,(1,.t 19))]),oP 7 (.alloc 83 [i0,i0,i0,i0,i0,i0,i0,i0,i0,i0,s0]),nP (.sto 11 (.t 7) (.t 20))] (.seq (sR [mV 21 6,oP 22 (.iad 1 (.t 21) (.c i0)),lD 23 1 22] (.block 0 (sR [oP 26 (.bin .eql (.t 23) (.c (.str [117,112]))),mV 25 26] (.cond (.t 25) (.reg [fD 27 0 7,nP (.sto 1 (.t 27) (.c (.int .i64 1)))]) (sR [oP 29 (.bin .eql (.t 23) (.c (.str [100,111,119,110]))),mV 28 29] (.cond (.t 28) (.reg [fD 30 0 7,nP (.sto 1 (.t 30) (.c (.int .i64 2)))]) (sR [oP 32 (.bin .eql (.t 23) (.c (.str [98,114,105,110,103]))),mV 31 32] (.cond (.t 31) (.reg [mV 33 6,oP 34 (.call 56 [.t 33,.c (.int .i64 1)]),oP 35 (.build [i0,i0,i0,i0,i0,i0,i0,i0,i0,i0,s0] [(0,(1,.c (.int .i64 3))),(1,(1,.t 34))]),nP (.sto 11 (.t 7) (.t 35))]) (sR [oP 37 (.bin .eql (.t 23) (.c (.str [108,111,115,101]))),mV 36 37] (.cond (.t 36) (.reg [mV 38 6,oP 39 (.call 56 [.t 38,.c (.int .i64 1)]),oP 40 (.build [i0,i0,i0,i0,i0,i0,i0,i0,i0,i0,s0] [(0,(1,.c (.int .i64 4))),(1,(1,.t 39))]),nP (.sto 11 (.t 7) (.t 40))]) (sR [oP 42 (.bin .eql (.t 23) (.c (.str [116,119,105,99,101]))),mV 41 42] (.cond (.t 41) (.reg [mV 43 6,oP 44 (.call 56 [.t 43,.c (.int .i64 1)]),oP 45 (.build [i0,i0,i0,i0,i0,i0,i0,i0,i0,i0,s0] [(0,(1,.c (.int .i64 5))),(1,(1,.t 44))]),nP (.sto 11 (.t 7) (.t 45))]) (sR [oP 47 (.bin .eql (.t 23) (.c (.str [102,111,114,103,101]))),mV 46 47] (.cond (.t 46) (sR [mV 49 1,mV 50 1,oP 51 (.lens (.t 50)),oP 52 (.mn (.t 51) (.c (.int .i64 6))),oP 53 (.sls (.t 49) (some (.t 52)) none),oP 54 (.call 57 [.t 53]),mV 48 54,eX 55 48 0,eX 56 48 1,oP 8 (.alloc 70 [i0,i0,i0,i0,i0,i0,s0]),nP (.sto 7 (.t 8) (.t 55)),mV 9 56] (.reg [lA 57 7 8,oP 58 (.build [i0,i0,i0,i0,i0,i0,i0,i0,i0,i0,s0] [(0,(1,.c (.int .i64 6))),(4,(7,.t 57))]),nP (.sto 11 (.t 7) (.t 58))])) (sR [oP 60 (.bin .eql (.t 23) (.c (.str [99,97,108,109]))),mV 59 60] (.cond (.t 59) (sR [lA 61 4 2,oP 62 (.call 58 [.t 61,.c (.int .i64 1)]),nP (.sto 4 (.t 4) (.t 62)),oP 5 (.mv (.c s0))] .ret) (sR [oP 64 (.bin .eql (.t 23) (.c (.str [109,97,112]))),mV 63 64] (.cond (.t 63) (sR [oP 10 (.mv (.c s0))] (.seq (sR [oP 11 (.mv (.c i0))] (.block 1 (.loop (.seq (sR [mV 65 11,fD 66 1 2,fD 67 0 66,lD 68 1 67,oP 69 (.len (.t 68)),bN 70 .lss 65 69] (.cond (.t 70) .skip (.exit 1))) (.seq (.block 2 (.drw [0,0,2,6,0,30,62,126,254,511,1023,0,2048,6144,0,30720,63488,129024,260606,524287,1048575,2097151] [(0,mV 73 10),(1,fD 74 1 2),(2,fD 75 0 74),(3,lD 76 1 75),(4,mV 77 11),(5,oP 78 (.iad 3 (.t 76) (.t 77))),(6,fD 79 0 78),(7,lD 80 1 79),(8,oP 81 (.call 34 [.t 80])),(9,bN 82 .add 73 81),(10,oP 83 (.bin .add (.t 82) (.c (.str [32])))),(11,fD 84 1 2),(12,fD 85 0 84),(13,lD 86 1 85),(14,mV 87 11),(15,oP 88 (.iad 3 (.t 86) (.t 87))),(16,fD 89 1 88),(17,lA 90 2 89),(18,oP 91 (.call 37 [.t 90])),(19,bN 92 .add 83 91),(20,oP 93 (.bin .add (.t 92) (.c (.str [10])))),(21,mV 10 93)])) (.reg [mV 71 11,oP 72 (.bin .add (.t 71) (.c (.int .i64 1))),mV 11 72])))))) (.seq (.drw [0,0,0,4,12,28,60,126,254,125,1023] [(0,lA 94 4 2),(1,mV 95 10),(2,fD 96 1 2),(3,fD 97 0 96),(4,lD 98 1 97),(5,oP 99 (.len (.t 98))),(6,oP 100 (.call 34 [.t 99])),(7,bN 101 .add 95 100),(8,oP 102 (.bin .add (.t 101) (.c (.str [10])))),(9,nP (.sto 4 (.t 4) (.t 94))),(10,mV 5 102)]) .ret))) (sR [oP 104 (.bin .eql (.t 23) (.c (.str [110,101,116,115]))),mV 103 104] (.cond (.t 103) (sR [oP 12 (.mv (.c s0))] (.seq (sR [oP 13 (.mv (.c i0))] (.block 3 (.loop (.seq (sR [mV 105 13,fD 106 3 2,lD 107 1 106,oP 108 (.len (.t 107)),bN 109 .lss 105 108] (.cond (.t 109) .skip (.exit 3))) (.seq (.block 4 (.reg [mV 112 12,fD 113 3 2,lD 114 1 113,mV 115 13,oP 116 (.iad 7 (.t 114) (.t 115)),lA 117 7 116,oP 118 (.call 35 [.t 117]),bN 119 .add 112 118,oP 120 (.bin .add (.t 119) (.c (.str [10]))),mV 12 120])) (.reg [mV 110 13,oP 111 (.bin .add (.t 110) (.c (.int .i64 1))),mV 13 111])))))) (.seq (.drw [0,0,0,4,12,28,62,126,61,511] [(0,lA 121 4 2),(1,mV 122 12),(2,fD 123 3 2),(3,lD 124 1 123),(4,oP 125 (.len (.t 124))),(5,oP 126 (.call 34 [.t 125])),(6,bN 127 .add 122 126),(7,oP 128 (.bin .add (.t 127) (.c (.str [10])))),(8,nP (.sto 4 (.t 4) (.t 121))),(9,mV 5 128)]) .ret))) (sR [lA 24 4 2,nP (.sto 4 (.t 4) (.t 24)),oP 5 (.mv (.c (.str [119,104,97,116,10])))] .ret))))))))))))))))))))) (sR [lA 129 4 2,lA 130 11 7,oP 131 (.call 59 [.t 129,.t 130]),nP (.sto 4 (.t 4) (.t 131)),oP 5 (.mv (.c s0))] .ret))))
theorem dg31:Dg Tryz.prog 31 Tryz.f31 ic31 [(.cell 4 4 true),(.t 5)]:=⟨Tryz.func31,by kernel_rfl,by kernel_rfl⟩
set_option maxHeartbeats 8000000 in
theorem c31 (w:M.World) (line:B) (hw:WI w) (hok:worldOk w=true) (hl:line.length≤1000):FnP Tryz.prog G 31 0 [.arr 47 10 (w.convs.map Conv.row),.arr 88 3 (w.door.map.map Pair.row),.arr 181 8 (w.door.flows.map Flw.row),.arr 70 7 (w.nets.map Pk.row)] [.agg [.own 0 w.convs.length,.own 1 w.door.map.length,.own 2 w.door.flows.length,.own 3 w.nets.length],.str line] (lineA (lineDo w line)):=by
 refine mP dg31 Tryz.ntmps31 ⟨_,_,rfl,rfl⟩ ?_
 have hnl:=hw.nl
 have hml:=(mapOk_ports (doorOk_iff.1 hw.door).1).2
 have hmk:=(doorOk_iff.1 hw.door).1
 have f1:=c30 line 32 (by omega)
 simp only[show((UInt8.toNat 32:Nat):Int)=32 from rfl] at f1
 have hln:=cutAll_len 32 line
 have hmem:=cutAll_mem 32 line
 obtain⟨hd,r,hc⟩:=words_hd line
 have hL:=lineDo_h w line hc
 rw[hc] at f1 hln hmem
 have f2:=c56 (hd::r) 1 (by omega) (fun x hx=>by have:=hmem x hx;omega)
 have f3:=c56 (hd::r) 2 (by omega) (fun x hx=>by have:=hmem x hx;omega)
 rw[hL]
 clear hL
 have hz0:0<(hd::r).length:=by simp
 have hg0:(hd::r).getD 0 default=hd:=rfl
 have hi0:((0:Int)<((hd::r).length:Int))=True:=eq_true (by simp only[List.length_cons];omega)
 generalize hws:hd::r=ws at *
 generalize hw1:wordAt ws 1=a at *
 generalize hw2:wordAt ws 2=b at *
 simp only[show(((1:Nat):Int))=1 from rfl] at f2
 simp only[show(((2:Nat):Int))=2 from rfl] at f3
 by_cases h0:hd=[117,112]
 ·rw[if_pos h0]
  simp only[ic31,go_sem]
  with_reducible repeat' (first|refine br ?_ ?_<;>intro h e<;>(try simp only[e,go_sem,eq_true h0,getD_mp hz0,hg0,Int.reduceToNat,hi0])<;>clear e|rw[i64w (by omega)]|refine sd ?_<;>try simp only[go_sem,eq_true h0,getD_mp hz0,hg0,Int.reduceToNat,hi0]|(first|refine cr (f1 ..) ?_|refine cr (f2 ..) ?_|refine cr (f3 ..) ?_)<;>try simp only[go_sem,eq_true h0,getD_mp hz0,hg0,Int.reduceToNat,hi0]|fail)
  refine callU (c59 w ⟨1,0,a,b,.zero⟩ hw (by simp[Pk.zero])) [0,1,2,3] [] 131 4 (by simp only[go_sem,Pk.zero,E.zero];first|done|simp[Pk.zero,E.zero]) (by simp only[go_sem];first|done|simp) (by simp) (by simp) (by rintro _ _ ⟨rfl,rfl⟩;simp) (by intro i hi;rcases(show i=0∨i=1∨i=2∨i=3 by omega) with rfl|rfl|rfl|rfl<;>simp only[go_sem]) ?_
  rintro _ _ ⟨rfl,rfl⟩
  simp only[go_sem]
  with_reducible repeat' (first|refine br ?_ ?_<;>intro h e<;>(try simp only[e,go_sem])<;>clear e|rw[i64w (by omega)]|refine sd ?_<;>try simp only[go_sem]|fail)
  exact lineRet 113100 113101 113102 113103 rfl (by simp only[go_sem]) (by simp only[go_sem]) (by simp only[go_sem]) (by simp only[go_sem]) (by simp only[go_sem]) (by simp only[go_sem]) (by simp only[go_sem]) (by decide)
 rw[if_neg h0]
 have n0:=h0
 clear h0
 by_cases h1:hd=[100,111,119,110]
 ·rw[if_pos h1]
  simp only[ic31,go_sem]
  with_reducible repeat' (first|refine br ?_ ?_<;>intro h e<;>(try simp only[e,go_sem,eq_false n0,eq_true h1,getD_mp hz0,hg0,Int.reduceToNat,hi0])<;>clear e|rw[i64w (by omega)]|refine sd ?_<;>try simp only[go_sem,eq_false n0,eq_true h1,getD_mp hz0,hg0,Int.reduceToNat,hi0]|(first|refine cr (f1 ..) ?_|refine cr (f2 ..) ?_|refine cr (f3 ..) ?_)<;>try simp only[go_sem,eq_false n0,eq_true h1,getD_mp hz0,hg0,Int.reduceToNat,hi0]|fail)
  refine callU (c59 w ⟨2,0,a,b,.zero⟩ hw (by simp[Pk.zero])) [0,1,2,3] [] 131 4 (by simp only[go_sem,Pk.zero,E.zero];first|done|simp[Pk.zero,E.zero]) (by simp only[go_sem];first|done|simp) (by simp) (by simp) (by rintro _ _ ⟨rfl,rfl⟩;simp) (by intro i hi;rcases(show i=0∨i=1∨i=2∨i=3 by omega) with rfl|rfl|rfl|rfl<;>simp only[go_sem]) ?_
  rintro _ _ ⟨rfl,rfl⟩
  simp only[go_sem]
  with_reducible repeat' (first|refine br ?_ ?_<;>intro h e<;>(try simp only[e,go_sem])<;>clear e|rw[i64w (by omega)]|refine sd ?_<;>try simp only[go_sem]|fail)
  exact lineRet 113100 113101 113102 113103 rfl (by simp only[go_sem]) (by simp only[go_sem]) (by simp only[go_sem]) (by simp only[go_sem]) (by simp only[go_sem]) (by simp only[go_sem]) (by simp only[go_sem]) (by decide)
 rw[if_neg h1]
 have n1:=h1
 clear h1
 by_cases h2:hd=[98,114,105,110,103]
 ·rw[if_pos h2]
  simp only[ic31,go_sem]
  with_reducible repeat' (first|refine br ?_ ?_<;>intro h e<;>(try simp only[e,go_sem,eq_false n0,eq_false n1,eq_true h2,getD_mp hz0,hg0,Int.reduceToNat,hi0])<;>clear e|rw[i64w (by omega)]|refine sd ?_<;>try simp only[go_sem,eq_false n0,eq_false n1,eq_true h2,getD_mp hz0,hg0,Int.reduceToNat,hi0]|(first|refine cr (f1 ..) ?_|refine cr (f2 ..) ?_|refine cr (f3 ..) ?_)<;>try simp only[go_sem,eq_false n0,eq_false n1,eq_true h2,getD_mp hz0,hg0,Int.reduceToNat,hi0]|fail)
  refine callU (c59 w ⟨3,a,0,0,.zero⟩ hw (by simp[Pk.zero])) [0,1,2,3] [] 131 4 (by simp only[go_sem,Pk.zero,E.zero];first|done|simp[Pk.zero,E.zero]) (by simp only[go_sem];first|done|simp) (by simp) (by simp) (by rintro _ _ ⟨rfl,rfl⟩;simp) (by intro i hi;rcases(show i=0∨i=1∨i=2∨i=3 by omega) with rfl|rfl|rfl|rfl<;>simp only[go_sem]) ?_
  rintro _ _ ⟨rfl,rfl⟩
  simp only[go_sem]
  with_reducible repeat' (first|refine br ?_ ?_<;>intro h e<;>(try simp only[e,go_sem])<;>clear e|rw[i64w (by omega)]|refine sd ?_<;>try simp only[go_sem]|fail)
  exact lineRet 113100 113101 113102 113103 rfl (by simp only[go_sem]) (by simp only[go_sem]) (by simp only[go_sem]) (by simp only[go_sem]) (by simp only[go_sem]) (by simp only[go_sem]) (by simp only[go_sem]) (by decide)
 rw[if_neg h2]
 have n2:=h2
 clear h2
 by_cases h3:hd=[108,111,115,101]
 ·rw[if_pos h3]
  simp only[ic31,go_sem]
  with_reducible repeat' (first|refine br ?_ ?_<;>intro h e<;>(try simp only[e,go_sem,eq_false n0,eq_false n1,eq_false n2,eq_true h3,getD_mp hz0,hg0,Int.reduceToNat,hi0])<;>clear e|rw[i64w (by omega)]|refine sd ?_<;>try simp only[go_sem,eq_false n0,eq_false n1,eq_false n2,eq_true h3,getD_mp hz0,hg0,Int.reduceToNat,hi0]|(first|refine cr (f1 ..) ?_|refine cr (f2 ..) ?_|refine cr (f3 ..) ?_)<;>try simp only[go_sem,eq_false n0,eq_false n1,eq_false n2,eq_true h3,getD_mp hz0,hg0,Int.reduceToNat,hi0]|fail)
  refine callU (c59 w ⟨4,a,0,0,.zero⟩ hw (by simp[Pk.zero])) [0,1,2,3] [] 131 4 (by simp only[go_sem,Pk.zero,E.zero];first|done|simp[Pk.zero,E.zero]) (by simp only[go_sem];first|done|simp) (by simp) (by simp) (by rintro _ _ ⟨rfl,rfl⟩;simp) (by intro i hi;rcases(show i=0∨i=1∨i=2∨i=3 by omega) with rfl|rfl|rfl|rfl<;>simp only[go_sem]) ?_
  rintro _ _ ⟨rfl,rfl⟩
  simp only[go_sem]
  with_reducible repeat' (first|refine br ?_ ?_<;>intro h e<;>(try simp only[e,go_sem])<;>clear e|rw[i64w (by omega)]|refine sd ?_<;>try simp only[go_sem]|fail)
  exact lineRet 113100 113101 113102 113103 rfl (by simp only[go_sem]) (by simp only[go_sem]) (by simp only[go_sem]) (by simp only[go_sem]) (by simp only[go_sem]) (by simp only[go_sem]) (by simp only[go_sem]) (by decide)
 rw[if_neg h3]
 have n3:=h3
 clear h3
 by_cases h4:hd=[116,119,105,99,101]
 ·rw[if_pos h4]
  simp only[ic31,go_sem]
  with_reducible repeat' (first|refine br ?_ ?_<;>intro h e<;>(try simp only[e,go_sem,eq_false n0,eq_false n1,eq_false n2,eq_false n3,eq_true h4,getD_mp hz0,hg0,Int.reduceToNat,hi0])<;>clear e|rw[i64w (by omega)]|refine sd ?_<;>try simp only[go_sem,eq_false n0,eq_false n1,eq_false n2,eq_false n3,eq_true h4,getD_mp hz0,hg0,Int.reduceToNat,hi0]|(first|refine cr (f1 ..) ?_|refine cr (f2 ..) ?_|refine cr (f3 ..) ?_)<;>try simp only[go_sem,eq_false n0,eq_false n1,eq_false n2,eq_false n3,eq_true h4,getD_mp hz0,hg0,Int.reduceToNat,hi0]|fail)
  refine callU (c59 w ⟨5,a,0,0,.zero⟩ hw (by simp[Pk.zero])) [0,1,2,3] [] 131 4 (by simp only[go_sem,Pk.zero,E.zero];first|done|simp[Pk.zero,E.zero]) (by simp only[go_sem];first|done|simp) (by simp) (by simp) (by rintro _ _ ⟨rfl,rfl⟩;simp) (by intro i hi;rcases(show i=0∨i=1∨i=2∨i=3 by omega) with rfl|rfl|rfl|rfl<;>simp only[go_sem]) ?_
  rintro _ _ ⟨rfl,rfl⟩
  simp only[go_sem]
  with_reducible repeat' (first|refine br ?_ ?_<;>intro h e<;>(try simp only[e,go_sem])<;>clear e|rw[i64w (by omega)]|refine sd ?_<;>try simp only[go_sem]|fail)
  exact lineRet 113100 113101 113102 113103 rfl (by simp only[go_sem]) (by simp only[go_sem]) (by simp only[go_sem]) (by simp only[go_sem]) (by simp only[go_sem]) (by simp only[go_sem]) (by simp only[go_sem]) (by decide)
 rw[if_neg h4]
 have n4:=h4
 clear h4
 by_cases h5:hd=[102,111,114,103,101]
 ·rw[if_pos h5]
  simp only[ic31,go_sem]
  have f4:=c57 (line.drop 6) (by simp;omega)
  have hpt:=pktRead_tl (line.drop 6) (by simp;omega)
  have hdr:line.drop (min line.length 6)=line.drop 6:=by
   rcases Nat.le_total line.length 6 with hle|hle
   ·rw[Nat.min_eq_left hle,List.drop_length,List.drop_eq_nil_of_le hle]
   ·rw[Nat.min_eq_right hle]
  have hmn:min (line.length:Int) 6=((min line.length 6:Nat):Int):=by omega
  obtain⟨p,hp⟩:∃p,p=(pktRead (line.drop 6)).getD .zero:=⟨_,rfl⟩
  rw[←hp] at f4 hpt ⊢
  generalize (pktRead (line.drop 6)).isSome=ok at *
  with_reducible repeat' (first|refine br ?_ ?_<;>intro h e<;>(try simp only[e,go_sem,eq_false n0,eq_false n1,eq_false n2,eq_false n3,eq_false n4,eq_true h5,getD_mp hz0,hg0,Int.reduceToNat,hi0,hmn,Int.toNat_natCast,List.take_length,hdr])<;>clear e|rw[i64w (by omega)]|refine sd ?_<;>try simp only[go_sem,eq_false n0,eq_false n1,eq_false n2,eq_false n3,eq_false n4,eq_true h5,getD_mp hz0,hg0,Int.reduceToNat,hi0,hmn,Int.toNat_natCast,List.take_length,hdr]|(first|refine cr (f1 ..) ?_|refine cr (f2 ..) ?_|refine cr (f3 ..) ?_|refine cr (f4 ..) ?_)<;>try simp only[go_sem,eq_false n0,eq_false n1,eq_false n2,eq_false n3,eq_false n4,eq_true h5,getD_mp hz0,hg0,Int.reduceToNat,hi0,hmn,Int.toNat_natCast,List.take_length,hdr]|fail)
  refine callU (c59 w ⟨6,0,0,0,p⟩ hw (by simp only;omega)) [0,1,2,3] [] 131 4 (by simp only[go_sem];first|done|simp) (by simp only[go_sem];first|done|simp) (by simp) (by simp) (by rintro _ _ ⟨rfl,rfl⟩;simp) (by intro i hi;rcases(show i=0∨i=1∨i=2∨i=3 by omega) with rfl|rfl|rfl|rfl<;>simp only[go_sem]) ?_
  rintro _ _ ⟨rfl,rfl⟩
  simp only[go_sem]
  with_reducible repeat' (first|refine br ?_ ?_<;>intro h e<;>(try simp only[e,go_sem])<;>clear e|rw[i64w (by omega)]|refine sd ?_<;>try simp only[go_sem]|fail)
  exact lineRet 113100 113101 113102 113103 rfl (by simp only[go_sem]) (by simp only[go_sem]) (by simp only[go_sem]) (by simp only[go_sem]) (by simp only[go_sem]) (by simp only[go_sem]) (by simp only[go_sem]) (by decide)
 rw[if_neg h5]
 have n5:=h5
 clear h5
 by_cases h6:hd=[99,97,108,109]
 ·rw[if_pos h6]
  simp only[ic31,go_sem]
  with_reducible repeat' (first|refine br ?_ ?_<;>intro h e<;>(try simp only[e,go_sem,eq_false n0,eq_false n1,eq_false n2,eq_false n3,eq_false n4,eq_false n5,eq_true h6,getD_mp hz0,hg0,Int.reduceToNat,hi0])<;>clear e|rw[i64w (by omega)]|refine sd ?_<;>try simp only[go_sem,eq_false n0,eq_false n1,eq_false n2,eq_false n3,eq_false n4,eq_false n5,eq_true h6,getD_mp hz0,hg0,Int.reduceToNat,hi0]|(first|refine cr (f1 ..) ?_|refine cr (f2 ..) ?_|refine cr (f3 ..) ?_)<;>try simp only[go_sem,eq_false n0,eq_false n1,eq_false n2,eq_false n3,eq_false n4,eq_false n5,eq_true h6,getD_mp hz0,hg0,Int.reduceToNat,hi0]|fail)
  refine callO (o58 w hw.x hok) [0,1,2,3] 62 4 (by simp only[go_sem];first|done|simp[E.row,Pc.row,Pair.row,Part.row,Flw.row,Pk.row,Conv.row]) (by simp only[List.mem_cons,List.not_mem_nil,or_false];rintro c (rfl|rfl|rfl|rfl)<;>simp only[go_sem]) (by rintro _ _ ⟨rfl,rfl⟩;simp) (by intro i hi;rcases(show i=0∨i=1∨i=2∨i=3 by omega) with rfl|rfl|rfl|rfl<;>simp only[go_sem]) ?_
  rintro _ _ ⟨rfl,rfl⟩
  simp only[go_sem]
  with_reducible repeat' (first|refine br ?_ ?_<;>intro h e<;>(try simp only[e,go_sem])<;>clear e|rw[i64w (by omega)]|refine sd ?_<;>try simp only[go_sem]|fail)
  exact lineRet 106200 106201 106202 106203 rfl (by simp only[go_sem]) (by simp only[go_sem]) (by simp only[go_sem]) (by simp only[go_sem]) (by simp only[go_sem]) (by simp only[go_sem]) (by simp only[go_sem]) (by decide)
 rw[if_neg h6]
 have n6:=h6
 clear h6
 by_cases h7:hd=[109,97,112]
 ·rw[if_pos h7]
  simp only[ic31,go_sem]
  have hel:∀p∈w.door.map,((fun p:Pair=>dec p.port++(32::p.ins.text)) p).length≤200:=fun p hp=>by
   have l1:=dec_le2 p.port;have l2:=text_le5 p.ins;simp;omega
  with_reducible repeat' (first|refine br ?_ ?_<;>intro h e<;>(try simp only[e,go_sem,eq_false n0,eq_false n1,eq_false n2,eq_false n3,eq_false n4,eq_false n5,eq_false n6,eq_true h7,getD_mp hz0,hg0,Int.reduceToNat,hi0])<;>clear e|rw[i64w (by omega)]|refine sd ?_<;>try simp only[go_sem,eq_false n0,eq_false n1,eq_false n2,eq_false n3,eq_false n4,eq_false n5,eq_false n6,eq_true h7,getD_mp hz0,hg0,Int.reduceToNat,hi0]|(first|refine cr (f1 ..) ?_|refine cr (f2 ..) ?_|refine cr (f3 ..) ?_)<;>try simp only[go_sem,eq_false n0,eq_false n1,eq_false n2,eq_false n3,eq_false n4,eq_false n5,eq_false n6,eq_true h7,getD_mp hz0,hg0,Int.reduceToNat,hi0]|fail)
  have hjl:∀k,(joinL ((w.door.map.take k).map (fun p:Pair=>dec p.port++(32::p.ins.text)))).length≤10*201:=fun k=>by
   have h1:=joinL_len ((w.door.map.take k).map (fun p:Pair=>dec p.port++(32::p.ins.text))) 200 (fun x hx=>by
    obtain⟨p,hp,rfl⟩:=List.mem_map.1 hx
    exact hel p (List.mem_of_mem_take hp))
   have h2:((w.door.map.take k).map (fun p:Pair=>dec p.port++(32::p.ins.text))).length*201≤10*201:=Nat.mul_le_mul_right _ (by simp only[List.length_map,List.length_take];omega)
   omega
  refine loopN (fun k:Nat=>⟨getL [(2,.pv 1002 0),(4,.pv 1004 0),(10,.str (joinL ((w.door.map.take k).map (fun p:Pair=>dec p.port++(32::p.ins.text))))),(11,.int .i64 (k:Int))],getH [(1002,.var 41 [.own 0 w.convs.length,.own 1 w.door.map.length,.own 2 w.door.flows.length,.own 3 w.nets.length]),(1004,.var 41 [.nils,.nils,.nils,.nils]),(0,.arr 47 10 (w.convs.map Conv.row)),(1,.arr 88 3 (w.door.map.map Pair.row)),(2,.arr 181 8 (w.door.flows.map Flw.row)),(3,.arr 70 7 (w.nets.map Pk.row))]⟩) (fun k=>w.door.map.length - k) (fun k=>k≤w.door.map.length) 0 (leQ []) (Nat.zero_le _) ?_
  intro k hk
  simp only[go_sem]
  by_cases hkl:(k:Int)<w.door.map.length
  ·have hil:k<w.door.map.length:=by omega
   have hg:w.door.map.getD k default=w.door.map[k]:=by simp[List.getD,hil]
   have hm:=List.getElem_mem hil
   have hst:=joinL_step w.door.map (fun p:Pair=>dec p.port++(32::p.ins.text)) k hil
   try simp only at hst
   have hj:=hjl k
   have hpo:=(mapOk_at hmk hil).1
   have g1:=c34 w.door.map[k].port (by omega)
   have g2:=c37 w.door.map[k].ins.a w.door.map[k].ins.p
   have l1:=dec_le2 w.door.map[k].port
   have l2:=text_le5 w.door.map[k].ins
   rw[show E.text ⟨w.door.map[k].ins.a,w.door.map[k].ins.p⟩=w.door.map[k].ins.text from rfl] at g2
   generalize w.door.map[k]=p at *
   generalize dec p.port=x at *
   generalize p.ins.text=y at *
   generalize hJ:joinL ((w.door.map.take k).map (fun p:Pair=>dec p.port++(32::p.ins.text)))=J at *
   simp only[eq_true hkl,go_sem]
   with_reducible repeat' (first|rw[i64w (by omega)];try simp only[go_sem,getD_mp hil,hg,List.length_append,List.length_cons,List.length_nil,Nat.zero_add,Int.natCast_add,Int.natCast_one]|refine br ?_ ?_<;>intro h e<;>(try simp only[e,go_sem,getD_mp hil,hg,List.length_append,List.length_cons,List.length_nil,Nat.zero_add,Int.natCast_add,Int.natCast_one])<;>clear e|refine sd ?_<;>try simp only[go_sem,getD_mp hil,hg,List.length_append,List.length_cons,List.length_nil,Nat.zero_add,Int.natCast_add,Int.natCast_one]|(first|refine cr (g1 ..) ?_|refine cr (g2 ..) ?_)<;>try simp only[go_sem,getD_mp hil,hg,List.length_append,List.length_cons,List.length_nil,Nat.zero_add,Int.natCast_add,Int.natCast_one]|fail)
   all_goals first
    | (refine⟨k+1,by omega,by omega, ?_⟩;simp only[hst];refine leN [] ?_ ?_ (by simp[getN]) (by simp only[go_sem])<;>simp only[go_sem]<;>(try simp);done)
    | trace_state
  ·simp only[eq_false hkl,go_sem]
   obtain rfl:k=w.door.map.length:=by omega
   have hj:=hjl w.door.map.length
   rw[List.take_length] at hj ⊢
   have g1:=c34 (w.door.map.length:Int) (by omega)
   have l1:=dec_le2 (w.door.map.length:Int)
   rw[dec_nat] at g1 l1
   generalize hJ:joinL (w.door.map.map (fun p:Pair=>dec p.port++(32::p.ins.text)))=J at *
   generalize hD:decN w.door.map.length=D at *
   with_reducible repeat' (first|refine br ?_ ?_<;>intro h e<;>(try simp only[e,go_sem,List.length_append,List.length_cons,List.length_nil,Nat.zero_add,Int.natCast_add,Int.natCast_one])<;>clear e|rw[i64w (by omega)]|refine sd ?_<;>try simp only[go_sem,List.length_append,List.length_cons,List.length_nil,Nat.zero_add,Int.natCast_add,Int.natCast_one]|(first|refine cr (g1 ..) ?_)<;>try simp only[go_sem,List.length_append,List.length_cons,List.length_nil,Nat.zero_add,Int.natCast_add,Int.natCast_one]|fail)
   all_goals first
    | exact lineRet 0 1 2 3 rfl (by simp only[go_sem]) (by simp only[go_sem];first|done|simp) (by simp only[go_sem]) (by simp only[go_sem]) (by simp only[go_sem]) (by simp only[go_sem]) (by simp only[go_sem]) (by decide)
    | trace_state
 rw[if_neg h7]
 have n7:=h7
 clear h7
 by_cases h8:hd=[110,101,116,115]
 ·rw[if_pos h8]
  simp only[ic31,go_sem]
  have hel:∀p∈w.nets,(pktText p).length≤200:=fun p hp=>by
   have l1:=pktText_len p;have l2:=(hw.net p hp).pk.len;omega
  with_reducible repeat' (first|refine br ?_ ?_<;>intro h e<;>(try simp only[e,go_sem,eq_false n0,eq_false n1,eq_false n2,eq_false n3,eq_false n4,eq_false n5,eq_false n6,eq_false n7,eq_true h8,getD_mp hz0,hg0,Int.reduceToNat,hi0])<;>clear e|rw[i64w (by omega)]|refine sd ?_<;>try simp only[go_sem,eq_false n0,eq_false n1,eq_false n2,eq_false n3,eq_false n4,eq_false n5,eq_false n6,eq_false n7,eq_true h8,getD_mp hz0,hg0,Int.reduceToNat,hi0]|(first|refine cr (f1 ..) ?_|refine cr (f2 ..) ?_|refine cr (f3 ..) ?_)<;>try simp only[go_sem,eq_false n0,eq_false n1,eq_false n2,eq_false n3,eq_false n4,eq_false n5,eq_false n6,eq_false n7,eq_true h8,getD_mp hz0,hg0,Int.reduceToNat,hi0]|fail)
  have hjl:∀k,(joinL ((w.nets.take k).map pktText)).length≤10*201:=fun k=>by
   have h1:=joinL_len ((w.nets.take k).map pktText) 200 (fun x hx=>by
    obtain⟨p,hp,rfl⟩:=List.mem_map.1 hx
    exact hel p (List.mem_of_mem_take hp))
   have h2:((w.nets.take k).map pktText).length*201≤10*201:=Nat.mul_le_mul_right _ (by simp only[List.length_map,List.length_take];omega)
   omega
  refine loopN (fun k:Nat=>⟨getL [(2,.pv 1002 0),(4,.pv 1004 0),(12,.str (joinL ((w.nets.take k).map pktText))),(13,.int .i64 (k:Int))],getH [(1002,.var 41 [.own 0 w.convs.length,.own 1 w.door.map.length,.own 2 w.door.flows.length,.own 3 w.nets.length]),(1004,.var 41 [.nils,.nils,.nils,.nils]),(0,.arr 47 10 (w.convs.map Conv.row)),(1,.arr 88 3 (w.door.map.map Pair.row)),(2,.arr 181 8 (w.door.flows.map Flw.row)),(3,.arr 70 7 (w.nets.map Pk.row))]⟩) (fun k=>w.nets.length - k) (fun k=>k≤w.nets.length) 0 (leQ []) (Nat.zero_le _) ?_
  intro k hk
  simp only[go_sem]
  by_cases hkl:(k:Int)<w.nets.length
  ·have hil:k<w.nets.length:=by omega
   have hg:w.nets.getD k default=w.nets[k]:=by simp[List.getD,hil]
   have hm:=List.getElem_mem hil
   have hst:=joinL_step w.nets pktText k hil
   try simp only at hst
   have hj:=hjl k
   have l1:=pktText_len w.nets[k]
   have l2:=(hw.net _ hm).pk.len
   have g1:=c35 w.nets[k] (by omega)
   generalize w.nets[k]=p at *
   generalize pktText p=x at *
   generalize hJ:joinL ((w.nets.take k).map pktText)=J at *
   simp only[eq_true hkl,go_sem]
   with_reducible repeat' (first|rw[i64w (by omega)];try simp only[go_sem,getD_mp hil,hg,List.length_append,List.length_cons,List.length_nil,Nat.zero_add,Int.natCast_add,Int.natCast_one]|refine br ?_ ?_<;>intro h e<;>(try simp only[e,go_sem,getD_mp hil,hg,List.length_append,List.length_cons,List.length_nil,Nat.zero_add,Int.natCast_add,Int.natCast_one])<;>clear e|refine sd ?_<;>try simp only[go_sem,getD_mp hil,hg,List.length_append,List.length_cons,List.length_nil,Nat.zero_add,Int.natCast_add,Int.natCast_one]|(first|refine cr (g1 ..) ?_)<;>try simp only[go_sem,getD_mp hil,hg,List.length_append,List.length_cons,List.length_nil,Nat.zero_add,Int.natCast_add,Int.natCast_one]|fail)
   all_goals first
    | (refine⟨k+1,by omega,by omega, ?_⟩;simp only[hst];refine leN [] ?_ ?_ (by simp[getN]) (by simp only[go_sem])<;>simp only[go_sem]<;>(try simp);done)
    | trace_state
  ·simp only[eq_false hkl,go_sem]
   obtain rfl:k=w.nets.length:=by omega
   have hj:=hjl w.nets.length
   rw[List.take_length] at hj ⊢
   have g1:=c34 (w.nets.length:Int) (by omega)
   have l1:=dec_le2 (w.nets.length:Int)
   rw[dec_nat] at g1 l1
   generalize hJ:joinL (w.nets.map pktText)=J at *
   generalize hD:decN w.nets.length=D at *
   with_reducible repeat' (first|refine br ?_ ?_<;>intro h e<;>(try simp only[e,go_sem,List.length_append,List.length_cons,List.length_nil,Nat.zero_add,Int.natCast_add,Int.natCast_one])<;>clear e|rw[i64w (by omega)]|refine sd ?_<;>try simp only[go_sem,List.length_append,List.length_cons,List.length_nil,Nat.zero_add,Int.natCast_add,Int.natCast_one]|(first|refine cr (g1 ..) ?_)<;>try simp only[go_sem,List.length_append,List.length_cons,List.length_nil,Nat.zero_add,Int.natCast_add,Int.natCast_one]|fail)
   all_goals first
    | exact lineRet 0 1 2 3 rfl (by simp only[go_sem]) (by simp only[go_sem];first|done|simp) (by simp only[go_sem]) (by simp only[go_sem]) (by simp only[go_sem]) (by simp only[go_sem]) (by simp only[go_sem]) (by decide)
    | trace_state
 rw[if_neg h8]
 have n8:=h8
 clear h8
 simp only[ic31,go_sem]
 with_reducible repeat' (first|refine br ?_ ?_<;>intro h e<;>(try simp only[e,go_sem,eq_false n0,eq_false n1,eq_false n2,eq_false n3,eq_false n4,eq_false n5,eq_false n6,eq_false n7,eq_false n8,getD_mp hz0,hg0,Int.reduceToNat,hi0])<;>clear e|rw[i64w (by omega)]|refine sd ?_<;>try simp only[go_sem,eq_false n0,eq_false n1,eq_false n2,eq_false n3,eq_false n4,eq_false n5,eq_false n6,eq_false n7,eq_false n8,getD_mp hz0,hg0,Int.reduceToNat,hi0]|(first|refine cr (f1 ..) ?_|refine cr (f2 ..) ?_|refine cr (f3 ..) ?_)<;>try simp only[go_sem,eq_false n0,eq_false n1,eq_false n2,eq_false n3,eq_false n4,eq_false n5,eq_false n6,eq_false n7,eq_false n8,getD_mp hz0,hg0,Int.reduceToNat,hi0]|fail)
 exact lineRet 0 1 2 3 rfl (by simp only[go_sem]) (by simp only[go_sem]) (by simp only[go_sem]) (by simp only[go_sem]) (by simp only[go_sem]) (by simp only[go_sem]) (by simp only[go_sem]) (by decide)
theorem lineDo_len {w:M.World} (hw:WI w) (l:B):(lineDo w l).2.length≤2100:=by
 have hnl:=hw.nl
 have hml:=(mapOk_ports (doorOk_iff.1 hw.door).1).2
 obtain⟨h,r,hc⟩:=words_hd l
 rw[lineDo_h w l hc]
 have h1:=joinL_len (w.door.map.map fun p=>dec p.port++(32::p.ins.text)) 200 (fun x hx=>by
  obtain⟨p,hp,rfl⟩:=List.mem_map.1 hx
  have l1:=dec_le2 p.port
  have l2:=text_le5 p.ins
  simp
  omega)
 have h2:=joinL_len (w.nets.map pktText) 200 (fun x hx=>by
  obtain⟨p,hp,rfl⟩:=List.mem_map.1 hx
  have l1:=pktText_len p
  have l2:=(hw.net p hp).pk.len
  omega)
 have h3:(w.door.map.map fun p=>dec p.port++(32::p.ins.text)).length*(200+1)≤10*201:=Nat.mul_le_mul_right _ (by simp;omega)
 have h4:(w.nets.map pktText).length*(200+1)≤10*201:=Nat.mul_le_mul_right _ (by simp;omega)
 have h5:=dec_le2 (w.door.map.length:Int)
 have h6:=dec_le2 (w.nets.length:Int)
 rw[dec_nat] at h5 h6
 iterate 7
  split
  ·simp
 split
 ·simp only[List.length_append,List.length_cons,List.length_nil];omega
 split
 ·simp only[List.length_append,List.length_cons,List.length_nil];omega
 ·simp
theorem line_hlit (up down:B):[[V.int .i64 1,V.int .i64 1,V.int .i64 4,V.int .i64 4,V.str up,V.str down,V.int .i64 0,V.int .i64 0,V.str [],V.str []]]=[lineConv up down].map Conv.row:=rfl
theorem line_conv {w:M.World} (h:SI CK CN w) (h1:w.convs.length=1):∃c,w.convs=[c]∧convOk c=true:=by
 match hc:w.convs,h1 with
 | [c],_=>exact⟨c,rfl,h.wi.cv c (by rw[hc];simp)⟩
def ic16:IC:=sR [oP 6 (.mv (.c s0))] (sR [oP 15 (.build [i0,i0] [(0,(1,.c (.int .i64 1))),(1,(1,.c (.int .i64 1)))]),oP 16 (.build [i0,i0] [(0,(1,.c (.int .i64 4))),(1,(1,.c (.int .i64 4)))]),mV 17 0,mV 18 1,oP 19 (.build [i0,i0,i0,i0,s0,s0,i0,i0,s0,s0] [(0,(2,.t 15)),(2,(2,.t 16)),(4,(1,.t 17)),(5,(1,.t 18))]),oP 20 (.bsl 47 10 [.t 19]),oP 21 (.call 29 [.t 20]),mV 14 21,eX 22 14 0,eX 23 14 1,oP 7 (.alloc 41 [.nils,.nils,.nils,.nils]),nP (.sto 4 (.t 7) (.t 22)),mV 8 23] (.seq (sR [mV 24 8,oP 25 (.un .not (.t 24))] (.cond (.t 25) (sR [oP 6 (.mv (.c (.str [110,111,32,119,111,114,108,100,10])))] .ret) .skip)) (.seq (sR [mV 26 2,oP 27 (.lens (.t 26)),oP 28 (.bin .gtr (.t 27) (.c (.int .i64 600)))] (.cond (.t 28) (sR [oP 6 (.mv (.c (.str [116,111,111,32,108,111,110,103,10])))] .ret) .skip)) (sR [oP 9 (.mv (.c s0))] (sR [mV 29 2,oP 30 (.call 30 [.t 29,.c (.int .u8 10)]),mV 10 30] (.seq (sR [oP 11 (.mv (.c i0))] (.block 0 (.loop (.seq (sR [mV 31 11,oP 32 (.bin .add (.t 31) (.c (.int .i64 1))),mV 33 10,oP 34 (.len (.t 33)),bN 35 .lss 32 34] (.cond (.t 35) .skip (.exit 0))) (.seq (.block 1 (.seq (.drw [0,0,0,6,14,31,63,127,127,0,767,2047] [(0,lA 39 4 7),(1,mV 40 10),(2,mV 41 11),(3,oP 42 (.iad 1 (.t 40) (.t 41))),(4,lD 43 1 42),(5,oP 44 (.call 31 [.t 39,.t 43])),(6,mV 38 44),(7,eX 45 38 0),(8,eX 46 38 1),(9,oP 12 (.alloc 41 [.nils,.nils,.nils,.nils])),(10,nP (.sto 4 (.t 12) (.t 45))),(11,mV 13 46)]) (sR [lA 47 4 12,nP (.sto 4 (.t 7) (.t 47))] (.reg [mV 48 9,mV 49 13,bN 50 .add 48 49,mV 9 50])))) (.reg [mV 36 11,oP 37 (.bin .add (.t 36) (.c (.int .i64 1))),mV 11 37])))))) (sR [mV 51 9,lA 52 4 7,oP 53 (.call 32 [.t 52]),bN 54 .add 51 53,mV 6 54] .ret)))))))
theorem dg16:Dg Tryz.prog 16 Tryz.f16 ic16 [(.t 6)]:=⟨Tryz.func16,by kernel_rfl,by kernel_rfl⟩
set_option maxHeartbeats 4000000 in
theorem c16 (up down text:B) (h1:up.length≤2000000) (h2:down.length≤2000000) (h3:text.length≤2000000):FnR Tryz.prog G 16 [.str up,.str down,.str text] (.str (linesRun up down text)):=by
 refine mF dg16 Tryz.ntmps16 ?_
 have hone:([lineConv up down]:List Conv).length=1:=rfl
 simp only[ic16,go_sem]
 with_reducible repeat' (first|refine br ?_ ?_<;>intro h e<;>(try simp only[e,go_sem])<;>clear e|rw[i64w (by omega)]|refine sd ?_<;>try simp only[go_sem]|fail)
 simp only[line_hlit]
 refine callN (c29 [lineConv up down] (by simp) (by simp[lineConv];omega)) [] [1020] false 21 4 (by simp only[go_sem];first|done|simp) trivial (by simp) (by simp) (by simp only[List.mem_singleton];rintro c rfl;exact⟨rfl,by simp⟩) ?_ ?_ ?_
 ·rintro _ _ (⟨w,h,rfl,rfl⟩|⟨h,rfl,rfl⟩)
  ·refine⟨by simp,by simp,.inr ⟨by simp[V.plain,V.plain2,V.plain1,V.plain0], ?_⟩,fun i hi=>by omega⟩
   obtain⟨_,_,hz,hn⟩:=worldNew_is h
   intro s hs
   simp only[List.mem_cons,List.not_mem_nil,or_false] at hs
   rcases hs with rfl|rfl|rfl|rfl
   ·exact cvP _
   ·rw[hz];rfl
   ·rw[hz];rfl
   ·rw[hn];rfl
  ·exact⟨by simp,by simp,.inr ⟨by simp[V.plain,V.plain2,V.plain1,V.plain0],by simp⟩,fun i hi=>by omega⟩
 ·intro i hi;rcases(show i=0∨i=1∨i=2∨i=3 by omega) with rfl|rfl|rfl|rfl<;>simp only[go_sem]
 rintro _ _ (⟨w,hw,rfl,rfl⟩|⟨hw,rfl,rfl⟩)
 rotate_left
 ·have e:linesRun up down text=[110,111,32,119,111,114,108,100,10]:=by simp only[linesRun,hw]
  rw[e]
  simp only[go_sem]
  with_reducible repeat' (first|refine br ?_ ?_<;>intro h e<;>(try simp only[e,go_sem])<;>clear e|rw[i64w (by omega)]|refine sd ?_<;>try simp only[go_sem]|fail)
 by_cases h6:(600:Int)<text.length
 ·have e:linesRun up down text=[116,111,111,32,108,111,110,103,10]:=by simp only[linesRun,hw];rw[if_pos (by omega)]
  rw[e]
  simp only[go_sem,eq_true h6]
  with_reducible repeat' (first|refine br ?_ ?_<;>intro h e<;>(try simp only[e,go_sem,eq_true h6])<;>clear e|rw[i64w (by omega)]|refine sd ?_<;>try simp only[go_sem,eq_true h6]|fail)
 have e:linesRun up down text=(linesDo w (cutAll 10 text).dropLast).2++linesEnd (linesDo w (cutAll 10 text).dropLast).1:=by simp only[linesRun,hw];rw[if_neg (by omega)]
 rw[e]
 have hsi:=lines_calm hw []
 have hcon:=lines_one hw []
 have f1:=c30 text 10 (by omega)
 simp only[show((UInt8.toNat 10:Nat):Int)=10 from rfl] at f1
 have hln:=cutAll_len 10 text
 have hmem:=cutAll_mem 10 text
 have hne:=cutAll_ne 10 text
 generalize hLS:cutAll 10 text=LS at *
 have hpos:1≤LS.length:=by
  cases LS with
  | nil=>exact absurd rfl hne
  | cons a b=>simp
 simp only[go_sem,eq_false h6]
 with_reducible repeat' (first|refine br ?_ ?_<;>intro h e<;>(try simp only[e,go_sem,eq_false h6])<;>clear e|rw[i64w (by omega)]|refine sd ?_<;>try simp only[go_sem,eq_false h6]|(first|refine cr (f1 ..) ?_)<;>try simp only[go_sem,eq_false h6]|fail)
 refine loopN (fun a:Nat×M.World×B=>⟨getL [(7,.pv 1007 0),(9,.str a.2.2),(10,.sl 1 (LS.map fun x=>[.str x])),(11,.int .i64 (a.1:Int))],getH [(1007,.var 41 [.own 102100 a.2.1.convs.length,.own 102101 a.2.1.door.map.length,.own 102102 a.2.1.door.flows.length,.own 102103 a.2.1.nets.length]),(102100,.arr 47 10 (a.2.1.convs.map Conv.row)),(102101,.arr 88 3 (a.2.1.door.map.map Pair.row)),(102102,.arr 181 8 (a.2.1.door.flows.map Flw.row)),(102103,.arr 70 7 (a.2.1.nets.map Pk.row))]⟩)
  (fun a=>LS.length - a.1) (fun a=>a.1+1≤LS.length∧SI CK CN a.2.1∧a.2.1.convs.length=1∧a.2.2.length≤2100*a.1∧linesDo w LS.dropLast=((linesDo a.2.1 (LS.drop a.1).dropLast).1,a.2.2++(linesDo a.2.1 (LS.drop a.1).dropLast).2)) (0,w,[]) (leQ []) ⟨by simp only;omega,hsi,hcon,by simp,by simp⟩ ?_
 intro⟨i,v,out⟩ ⟨g1,g2,g3,g4,g5⟩
 simp only at g1 g2 g3 g4 g5
 simp only[go_sem]
 have hi1:IntKind.i64.wrap ((i:Int)+1)=(i:Int)+1:=i64w (by omega)
 by_cases h:(i:Int)+1<LS.length
 ·have hil:i<LS.length:=by omega
  have hg:LS.getD i default=LS[i]:=by simp[List.getD,hil]
  have hl:=hmem _ (List.getElem_mem hil)
  have hd:(LS.drop i).dropLast=LS[i]::(LS.drop (i+1)).dropLast:=by
   rw[List.drop_eq_getElem_cons hil]
   cases hq:LS.drop (i+1) with
   | nil =>
     have:=congrArg List.length hq
     simp at this
     omega
   | cons a b=>rfl
  rw[hd] at g5
  generalize LS[i]=line at *
  have hll:=lineDo_len g2.wi line
  have hsi2:=lineDo_si calm_step g2 line
  have hex:=(lineDo_ext v line).len
  have hj:linesDo v (line::(LS.drop (i+1)).dropLast)=((linesDo (lineDo v line).1 (LS.drop (i+1)).dropLast).1,(lineDo v line).2++(linesDo (lineDo v line).1 (LS.drop (i+1)).dropLast).2):=rfl
  rw[hj] at g5
  simp only[hi1,eq_true h,go_sem]
  with_reducible repeat' (first|refine br ?_ ?_<;>intro h e<;>(try simp only[e,go_sem,getD_mp hil,hg])<;>clear e|rw[i64w (by omega)]|refine sd ?_<;>try simp only[go_sem,getD_mp hil,hg]|fail)
  refine callU (c31 v line g2.wi (si_ok g2) (by omega)) [102100,102101,102102,102103] [] 44 4 (by simp only[go_sem];first|done|simp) (by simp only[go_sem];first|done|simp) (by simp) (by simp) (by rintro _ _ ⟨rfl,rfl⟩;simp) (by intro i hi;rcases(show i=0∨i=1∨i=2∨i=3 by omega) with rfl|rfl|rfl|rfl<;>simp only[go_sem]) ?_
  rintro _ _ ⟨rfl,rfl⟩
  simp only[go_sem]
  generalize lineDo v line=x at *
  with_reducible repeat' (first|rw[i64w (by omega)];try simp only[go_sem,List.length_append]|refine br ?_ ?_<;>intro h e<;>(try simp only[e,go_sem,List.length_append])<;>clear e|refine sd ?_<;>try simp only[go_sem,List.length_append]|fail)
  exact⟨(i+1,x.1,out++x.2),by simp only;omega,⟨by simp only;omega,hsi2,by simp only;omega,by simp only[List.length_append];omega,by simp only;rw[g5,List.append_assoc]⟩,(leQ [(102100,104400),(102101,104401),(102102,104402),(102103,104403)])⟩
 ·simp only[hi1,eq_false h,go_sem]
  have hd:(LS.drop i).dropLast=[]:=by
   have:(LS.drop i).length=1:=by simp;omega
   match hq:LS.drop i,this with
   | [a],_=>rfl
  rw[hd,show linesDo v []=(v,[]) from rfl,List.append_nil] at g5
  rw[g5]
  obtain⟨c,hc,hok⟩:=line_conv g2 g3
  have fa:=c32 v c hc hok
  have hel:(linesEnd v).length≤1000:=by
   obtain⟨_,_,l3,l4⟩:=endB hok
   have l1:=dec_le2 c.upAck
   have l2:=dec_le2 c.downAck
   simp only[linesEnd,hc,List.length_append,List.length_cons,List.length_nil]
   omega
  generalize linesEnd v=ee at *
  simp only
  with_reducible repeat' (first|refine br ?_ ?_<;>intro h e<;>(try simp only[e,go_sem])<;>clear e|rw[i64w (by omega)]|refine sd ?_<;>try simp only[go_sem]|fail)
  refine callF fa [102100,102101,102102,102103] true (by simp only[go_sem];first|done|simp[E.row,Pc.row,Pair.row,Part.row,Flw.row,Pk.row,Conv.row]) (by simp only[List.mem_cons,List.not_mem_nil,or_false];rintro c (rfl|rfl|rfl|rfl)<;>simp only[go_sem]) rfl (.inl rfl) ?_
  simp only[go_sem]
  with_reducible repeat' (first|refine br ?_ ?_<;>intro h e<;>(try simp only[e,go_sem])<;>clear e|rw[i64w (by omega)]|refine sd ?_<;>try simp only[go_sem]|fail)
theorem forge_trim {line:B} {r:List B} (h:cutAll 32 line=[102,111,114,103,101]::r):pktRead (if([102,111,114,103,101,32]:B).isPrefixOf line then line.drop ([102,111,114,103,101,32]:B).length else line)=pktRead (line.drop 6):=by
 by_cases h32:(32:UInt8)∈line
 ·obtain⟨us,bs,hs,hna⟩:=List.eq_append_cons_of_mem h32
  subst hs
  rw[cutAll_app,cutAll_one hna] at h
  simp only[List.cons_append,List.nil_append,List.cons.injEq] at h
  obtain⟨rfl,_⟩:=h
  have hp:([102,111,114,103,101,32]:B).isPrefixOf ([102,111,114,103,101]++32::bs)=true:=by simp[List.isPrefixOf]
  rw[if_pos hp]
  rfl
 ·rw[cutAll_one h32] at h
  simp only[List.cons.injEq] at h
  obtain⟨rfl,_⟩:=h
  decide +kernel
def ic26:IC:=sR [oP 4 (.mv (.c s0))] (sR [mV 14 1,oP 15 (.call 44 [.t 14,.c (.str [32])]),mV 5 15] (.seq (sR [mV 16 5,oP 17 (.iad 1 (.t 16) (.c i0)),lD 18 1 17] (.block 0 (sR [oP 20 (.bin .eql (.t 18) (.c (.str [117,112]))),mV 19 20] (.cond (.t 19) (.reg [mV 21 0,mV 22 5,oP 23 (.call 46 [.t 22,.c (.int .i64 1)]),mV 24 5,oP 25 (.call 46 [.t 24,.c (.int .i64 2)]),oP 26 (.build [i0,i0,i0,i0,i0,i0,i0,i0,i0,i0,s0] [(0,(1,.c (.int .i64 1))),(2,(1,.t 23)),(3,(1,.t 25))]),oP 27 (.call 45 [.t 21,.t 26])]) (sR [oP 29 (.bin .eql (.t 18) (.c (.str [100,111,119,110]))),mV 28 29] (.cond (.t 28) (.reg [mV 30 0,mV 31 5,oP 32 (.call 46 [.t 31,.c (.int .i64 1)]),mV 33 5,oP 34 (.call 46 [.t 33,.c (.int .i64 2)]),oP 35 (.build [i0,i0,i0,i0,i0,i0,i0,i0,i0,i0,s0] [(0,(1,.c (.int .i64 2))),(2,(1,.t 32)),(3,(1,.t 34))]),oP 36 (.call 45 [.t 30,.t 35])]) (sR [oP 38 (.bin .eql (.t 18) (.c (.str [98,114,105,110,103]))),mV 37 38] (.cond (.t 37) (.reg [mV 39 0,mV 40 5,oP 41 (.call 46 [.t 40,.c (.int .i64 1)]),oP 42 (.build [i0,i0,i0,i0,i0,i0,i0,i0,i0,i0,s0] [(0,(1,.c (.int .i64 3))),(1,(1,.t 41))]),oP 43 (.call 45 [.t 39,.t 42])]) (sR [oP 45 (.bin .eql (.t 18) (.c (.str [108,111,115,101]))),mV 44 45] (.cond (.t 44) (.reg [mV 46 0,mV 47 5,oP 48 (.call 46 [.t 47,.c (.int .i64 1)]),oP 49 (.build [i0,i0,i0,i0,i0,i0,i0,i0,i0,i0,s0] [(0,(1,.c (.int .i64 4))),(1,(1,.t 48))]),oP 50 (.call 45 [.t 46,.t 49])]) (sR [oP 52 (.bin .eql (.t 18) (.c (.str [116,119,105,99,101]))),mV 51 52] (.cond (.t 51) (.reg [mV 53 0,mV 54 5,oP 55 (.call 46 [.t 54,.c (.int .i64 1)]),oP 56 (.build [i0,i0,i0,i0,i0,i0,i0,i0,i0,i0,s0] [(0,(1,.c (.int .i64 5))),(1,(1,.t 55))]),oP 57 (.call 45 [.t 53,.t 56])]) (sR [oP 59 (.bin .eql (.t 18) (.c (.str [102,111,114,103,101]))),mV 58 59] (.cond (.t 58) (sR [mV 61 1,oP 62 (.call 48 [.t 61,.c (.str [102,111,114,103,101,32])]),oP 63 (.call 47 [.t 62]),mV 60 63,eX 64 60 0,eX 65 60 1,oP 6 (.alloc 70 [i0,i0,i0,i0,i0,i0,s0]),nP (.sto 7 (.t 6) (.t 64)),mV 7 65] (sR [mV 66 7] (.cond (.t 66) (.reg [mV 67 0,lA 68 7 6,oP 69 (.build [i0,i0,i0,i0,i0,i0,i0,i0,i0,i0,s0] [(0,(1,.c (.int .i64 6))),(4,(7,.t 68))]),oP 70 (.call 45 [.t 67,.t 69])]) .skip))) (sR [oP 72 (.bin .eql (.t 18) (.c (.str [99,97,108,109]))),mV 71 72] (.cond (.t 71) (.reg [mV 73 0,oP 74 (.call 49 [.t 73])]) (sR [oP 76 (.bin .eql (.t 18) (.c (.str [109,97,112]))),mV 75 76] (.cond (.t 75) (sR [oP 77 (.bsl 9 1 []),mV 8 77] (.seq (sR [mV 78 0,oP 79 (.nilc (.t 78)),fD 80 1 79,fD 81 0 80,lD 82 1 81,oP 83 (.len (.t 82)),oP 84 (.mv (.c i0))] (.block 1 (.loop (sR [bN 85 .lss 84 83] (.seq (.cond (.t 85) .skip (.exit 1)) (.seq (.block 2 (sR [oP 86 (.iad 3 (.t 82) (.t 84)),lA 87 3 86,oP 10 (.alloc 88 [i0,i0,i0]),nP (.sto 3 (.t 10) (.t 87))] (.drw [0,0,2,6,14,0,32,110,254,510,1023,2047] [(0,mV 88 8),(1,fD 89 0 10),(2,lD 90 1 89),(3,oP 91 (.call 27 [.t 90])),(4,oP 92 (.bin .add (.t 91) (.c (.str [32])))),(5,fD 93 1 10),(6,lA 94 2 93),(7,oP 95 (.call 50 [.t 94])),(8,bN 96 .add 92 95),(9,oP 97 (.bsl 9 1 [.t 96])),(10,oP 98 (.app 9 1 (.t 88) (.t 97))),(11,mV 8 98)]))) (.reg [oP 99 (.bin .add (.t 84) (.c (.int .i64 1))),mV 84 99]))))))) (sR [mV 100 8,oP 101 (.call 51 [.t 100]),mV 4 101] .ret))) (sR [oP 103 (.bin .eql (.t 18) (.c (.str [110,101,116,115]))),mV 102 103] (.cond (.t 102) (sR [oP 104 (.bsl 9 1 []),mV 11 104] (.seq (sR [mV 105 0,oP 106 (.nilc (.t 105)),fD 107 3 106,lD 108 1 107,oP 109 (.len (.t 108)),oP 110 (.mv (.c i0))] (.block 3 (.loop (sR [bN 111 .lss 110 109] (.seq (.cond (.t 111) .skip (.exit 3)) (.seq (.block 4 (sR [oP 112 (.iad 7 (.t 108) (.t 110)),lA 113 7 112,oP 13 (.alloc 70 [i0,i0,i0,i0,i0,i0,s0]),nP (.sto 7 (.t 13) (.t 113))] (.reg [mV 114 11,lA 115 7 13,oP 116 (.call 52 [.t 115]),oP 117 (.bsl 9 1 [.t 116]),oP 118 (.app 9 1 (.t 114) (.t 117)),mV 11 118]))) (.reg [oP 119 (.bin .add (.t 110) (.c (.int .i64 1))),mV 110 119]))))))) (sR [mV 120 11,oP 121 (.call 51 [.t 120]),mV 4 121] .ret))) (sR [oP 4 (.mv (.c (.str [119,104,97,116,10])))] .ret))))))))))))))))))))) (sR [oP 4 (.mv (.c s0))] .ret)))
theorem dg26:Dg Tryz.prog 26 Tryz.f26 ic26 [(.t 4)]:=⟨Tryz.func26,by kernel_rfl,by kernel_rfl⟩
set_option maxHeartbeats 8000000 in
theorem c26 (w:M.World) (line:B) (hw:WI w) (hl:line.length≤1000):FnP Tryz.prog G 26 1 [.var 41 [.own 2 w.convs.length,.sl 3 (w.door.map.map Pair.row),.own 1 w.door.flows.length,.own 3 w.nets.length],.arr 181 8 (w.door.flows.map Flw.row),.arr 47 10 (w.convs.map Conv.row),.arr 70 7 (w.nets.map Pk.row)] [.pv 0 0,.str line] (fun r o=>r=.str (lineDo w line).2∧∃v,v=(lineDo w line).1∧o=[.var 41 [.own 2 v.convs.length,.sl 3 (v.door.map.map Pair.row),.own 1 v.door.flows.length,.own 3 v.nets.length],.arr 181 8 (v.door.flows.map Flw.row),.arr 47 10 (v.convs.map Conv.row),.arr 70 7 (v.nets.map Pk.row)]):=by
 refine mP dg26 Tryz.ntmps26 ⟨_,_,rfl,_,rfl,rfl⟩ ?_
 have hnl:=hw.nl
 have hml:=(mapOk_ports (doorOk_iff.1 hw.door).1).2
 have hmk:=(doorOk_iff.1 hw.door).1
 have f1:=c44 line 32 (by omega)
 have hln:=cutAll_len 32 line
 have hmem:=cutAll_mem 32 line
 obtain⟨hd,r,hc⟩:=words_hd line
 have hL:=lineDo_h w line hc
 rw[hc] at f1 hln hmem
 have f2:=c46 (hd::r) 1 (by omega) (fun x hx=>by have:=hmem x hx;omega)
 have f3:=c46 (hd::r) 2 (by omega) (fun x hx=>by have:=hmem x hx;omega)
 rw[hL]
 clear hL
 have hz0:0<(hd::r).length:=by simp
 have hg0:(hd::r).getD 0 default=hd:=rfl
 have hi0:((0:Int)<((hd::r).length:Int))=True:=eq_true (by simp only[List.length_cons];omega)
 generalize hws:hd::r=ws at *
 generalize hw1:wordAt ws 1=a at *
 generalize hw2:wordAt ws 2=b at *
 simp only[show(((1:Nat):Int))=1 from rfl] at f2
 simp only[show(((2:Nat):Int))=2 from rfl] at f3
 have fin:∀l mm (v V:M.World) (S:B) (n1 n2 n3:Nat),v=V→getL l 4=.str S→getH mm 0=.var 41 [.own n2 v.convs.length,.sl 3 (v.door.map.map Pair.row),.own n1 v.door.flows.length,.own n3 v.nets.length]→[0,n1,n2,n3].Nodup→getH mm n1=.arr 181 8 (v.door.flows.map Flw.row)→getH mm n2=.arr 47 10 (v.convs.map Conv.row)→getH mm n3=.arr 70 7 (v.nets.map Pk.row) →
  retQ [.t 4] 1 (fun r o=>r=.str S∧∃v,v=V∧o=[.var 41 [.own 2 v.convs.length,.sl 3 (v.door.map.map Pair.row),.own 1 v.door.flows.length,.own 3 v.nets.length],.arr 181 8 (v.door.flows.map Flw.row),.arr 47 10 (v.convs.map Conv.row),.arr 70 7 (v.nets.map Pk.row)]) .ret ⟨getL l,getH mm⟩:=fun l mm v V S n1 n2 n3 hx h1 h2 h3 h4 h5 h6=>by
  refine retN (.str S) [.var 41 [.own 2 v.convs.length,.sl 3 (v.door.map.map Pair.row),.own 1 v.door.flows.length,.own 3 v.nets.length],.arr 181 8 (v.door.flows.map Flw.row),.arr 47 10 (v.convs.map Conv.row),.arr 70 7 (v.nets.map Pk.row)] [(1,n1),(2,n2),(3,n3)] (by simp only[go_sem,h1]) ⟨rfl,v,hx,rfl⟩ ?_ (by simpa[argH,getN] using h3) (by simp only[go_sem])
  simp only[go_sem,h2,h4,h5,h6]
 by_cases h0:hd=[117,112]
 ·rw[if_pos h0]
  simp only[ic26,go_sem]
  with_reducible repeat' (first|refine br ?_ ?_<;>intro h e<;>(try simp only[e,go_sem,eq_true h0,getD_mp hz0,hg0,Int.reduceToNat,hi0])<;>clear e|rw[i64w (by omega)]|refine sd ?_<;>try simp only[go_sem,eq_true h0,getD_mp hz0,hg0,Int.reduceToNat,hi0]|(first|refine cr (f1 ..) ?_|refine cr (f2 ..) ?_|refine cr (f3 ..) ?_)<;>try simp only[go_sem,eq_true h0,getD_mp hz0,hg0,Int.reduceToNat,hi0]|fail)
  refine callN (x45 w ⟨1,0,a,b,.zero⟩ hw.x (by simp[Pk.zero])) [0,1,2,3] [] true 27 4 (by simp only[go_sem,Pk.zero,E.zero];first|done|simp[Pk.zero,E.zero]) (by simp only[go_sem];first|done|simp) (by simp) (by simp) (by simp) ?_ ?_ ?_
  ·rintro _ _ ⟨rfl,v',hv',rfl⟩
   exact⟨by simp,by simp,.inl rfl,fun i hi=>by obtain rfl:i=0:=(by omega);simp[chH,stepOk]⟩
  ·intro i hi
   rcases(show i=0∨i=1∨i=2∨i=3 by omega) with rfl|rfl|rfl|rfl<;>simp only[go_sem]
  rintro _ _ ⟨rfl,v,hv,rfl⟩
  simp only[go_sem]
  with_reducible repeat' (first|refine br ?_ ?_<;>intro h e<;>(try simp only[e,go_sem])<;>clear e|rw[i64w (by omega)]|refine sd ?_<;>try simp only[go_sem]|fail)
  exact fin _ _ v _ _ 102701 102702 102703 hv (by simp only[go_sem]) (by simp only[go_sem]) (by decide) (by simp only[go_sem]) (by simp only[go_sem]) (by simp only[go_sem])
 rw[if_neg h0]
 have n0:=h0
 clear h0
 by_cases h1:hd=[100,111,119,110]
 ·rw[if_pos h1]
  simp only[ic26,go_sem]
  with_reducible repeat' (first|refine br ?_ ?_<;>intro h e<;>(try simp only[e,go_sem,eq_false n0,eq_true h1,getD_mp hz0,hg0,Int.reduceToNat,hi0])<;>clear e|rw[i64w (by omega)]|refine sd ?_<;>try simp only[go_sem,eq_false n0,eq_true h1,getD_mp hz0,hg0,Int.reduceToNat,hi0]|(first|refine cr (f1 ..) ?_|refine cr (f2 ..) ?_|refine cr (f3 ..) ?_)<;>try simp only[go_sem,eq_false n0,eq_true h1,getD_mp hz0,hg0,Int.reduceToNat,hi0]|fail)
  refine callN (x45 w ⟨2,0,a,b,.zero⟩ hw.x (by simp[Pk.zero])) [0,1,2,3] [] true 36 4 (by simp only[go_sem,Pk.zero,E.zero];first|done|simp[Pk.zero,E.zero]) (by simp only[go_sem];first|done|simp) (by simp) (by simp) (by simp) ?_ ?_ ?_
  ·rintro _ _ ⟨rfl,v',hv',rfl⟩
   exact⟨by simp,by simp,.inl rfl,fun i hi=>by obtain rfl:i=0:=(by omega);simp[chH,stepOk]⟩
  ·intro i hi
   rcases(show i=0∨i=1∨i=2∨i=3 by omega) with rfl|rfl|rfl|rfl<;>simp only[go_sem]
  rintro _ _ ⟨rfl,v,hv,rfl⟩
  simp only[go_sem]
  with_reducible repeat' (first|refine br ?_ ?_<;>intro h e<;>(try simp only[e,go_sem])<;>clear e|rw[i64w (by omega)]|refine sd ?_<;>try simp only[go_sem]|fail)
  exact fin _ _ v _ _ 103601 103602 103603 hv (by simp only[go_sem]) (by simp only[go_sem]) (by decide) (by simp only[go_sem]) (by simp only[go_sem]) (by simp only[go_sem])
 rw[if_neg h1]
 have n1:=h1
 clear h1
 by_cases h2:hd=[98,114,105,110,103]
 ·rw[if_pos h2]
  simp only[ic26,go_sem]
  with_reducible repeat' (first|refine br ?_ ?_<;>intro h e<;>(try simp only[e,go_sem,eq_false n0,eq_false n1,eq_true h2,getD_mp hz0,hg0,Int.reduceToNat,hi0])<;>clear e|rw[i64w (by omega)]|refine sd ?_<;>try simp only[go_sem,eq_false n0,eq_false n1,eq_true h2,getD_mp hz0,hg0,Int.reduceToNat,hi0]|(first|refine cr (f1 ..) ?_|refine cr (f2 ..) ?_|refine cr (f3 ..) ?_)<;>try simp only[go_sem,eq_false n0,eq_false n1,eq_true h2,getD_mp hz0,hg0,Int.reduceToNat,hi0]|fail)
  refine callN (x45 w ⟨3,a,0,0,.zero⟩ hw.x (by simp[Pk.zero])) [0,1,2,3] [] true 43 4 (by simp only[go_sem,Pk.zero,E.zero];first|done|simp[Pk.zero,E.zero]) (by simp only[go_sem];first|done|simp) (by simp) (by simp) (by simp) ?_ ?_ ?_
  ·rintro _ _ ⟨rfl,v',hv',rfl⟩
   exact⟨by simp,by simp,.inl rfl,fun i hi=>by obtain rfl:i=0:=(by omega);simp[chH,stepOk]⟩
  ·intro i hi
   rcases(show i=0∨i=1∨i=2∨i=3 by omega) with rfl|rfl|rfl|rfl<;>simp only[go_sem]
  rintro _ _ ⟨rfl,v,hv,rfl⟩
  simp only[go_sem]
  with_reducible repeat' (first|refine br ?_ ?_<;>intro h e<;>(try simp only[e,go_sem])<;>clear e|rw[i64w (by omega)]|refine sd ?_<;>try simp only[go_sem]|fail)
  exact fin _ _ v _ _ 104301 104302 104303 hv (by simp only[go_sem]) (by simp only[go_sem]) (by decide) (by simp only[go_sem]) (by simp only[go_sem]) (by simp only[go_sem])
 rw[if_neg h2]
 have n2:=h2
 clear h2
 by_cases h3:hd=[108,111,115,101]
 ·rw[if_pos h3]
  simp only[ic26,go_sem]
  with_reducible repeat' (first|refine br ?_ ?_<;>intro h e<;>(try simp only[e,go_sem,eq_false n0,eq_false n1,eq_false n2,eq_true h3,getD_mp hz0,hg0,Int.reduceToNat,hi0])<;>clear e|rw[i64w (by omega)]|refine sd ?_<;>try simp only[go_sem,eq_false n0,eq_false n1,eq_false n2,eq_true h3,getD_mp hz0,hg0,Int.reduceToNat,hi0]|(first|refine cr (f1 ..) ?_|refine cr (f2 ..) ?_|refine cr (f3 ..) ?_)<;>try simp only[go_sem,eq_false n0,eq_false n1,eq_false n2,eq_true h3,getD_mp hz0,hg0,Int.reduceToNat,hi0]|fail)
  refine callN (x45 w ⟨4,a,0,0,.zero⟩ hw.x (by simp[Pk.zero])) [0,1,2,3] [] true 50 4 (by simp only[go_sem,Pk.zero,E.zero];first|done|simp[Pk.zero,E.zero]) (by simp only[go_sem];first|done|simp) (by simp) (by simp) (by simp) ?_ ?_ ?_
  ·rintro _ _ ⟨rfl,v',hv',rfl⟩
   exact⟨by simp,by simp,.inl rfl,fun i hi=>by obtain rfl:i=0:=(by omega);simp[chH,stepOk]⟩
  ·intro i hi
   rcases(show i=0∨i=1∨i=2∨i=3 by omega) with rfl|rfl|rfl|rfl<;>simp only[go_sem]
  rintro _ _ ⟨rfl,v,hv,rfl⟩
  simp only[go_sem]
  with_reducible repeat' (first|refine br ?_ ?_<;>intro h e<;>(try simp only[e,go_sem])<;>clear e|rw[i64w (by omega)]|refine sd ?_<;>try simp only[go_sem]|fail)
  exact fin _ _ v _ _ 105001 105002 105003 hv (by simp only[go_sem]) (by simp only[go_sem]) (by decide) (by simp only[go_sem]) (by simp only[go_sem]) (by simp only[go_sem])
 rw[if_neg h3]
 have n3:=h3
 clear h3
 by_cases h4:hd=[116,119,105,99,101]
 ·rw[if_pos h4]
  simp only[ic26,go_sem]
  with_reducible repeat' (first|refine br ?_ ?_<;>intro h e<;>(try simp only[e,go_sem,eq_false n0,eq_false n1,eq_false n2,eq_false n3,eq_true h4,getD_mp hz0,hg0,Int.reduceToNat,hi0])<;>clear e|rw[i64w (by omega)]|refine sd ?_<;>try simp only[go_sem,eq_false n0,eq_false n1,eq_false n2,eq_false n3,eq_true h4,getD_mp hz0,hg0,Int.reduceToNat,hi0]|(first|refine cr (f1 ..) ?_|refine cr (f2 ..) ?_|refine cr (f3 ..) ?_)<;>try simp only[go_sem,eq_false n0,eq_false n1,eq_false n2,eq_false n3,eq_true h4,getD_mp hz0,hg0,Int.reduceToNat,hi0]|fail)
  refine callN (x45 w ⟨5,a,0,0,.zero⟩ hw.x (by simp[Pk.zero])) [0,1,2,3] [] true 57 4 (by simp only[go_sem,Pk.zero,E.zero];first|done|simp[Pk.zero,E.zero]) (by simp only[go_sem];first|done|simp) (by simp) (by simp) (by simp) ?_ ?_ ?_
  ·rintro _ _ ⟨rfl,v',hv',rfl⟩
   exact⟨by simp,by simp,.inl rfl,fun i hi=>by obtain rfl:i=0:=(by omega);simp[chH,stepOk]⟩
  ·intro i hi
   rcases(show i=0∨i=1∨i=2∨i=3 by omega) with rfl|rfl|rfl|rfl<;>simp only[go_sem]
  rintro _ _ ⟨rfl,v,hv,rfl⟩
  simp only[go_sem]
  with_reducible repeat' (first|refine br ?_ ?_<;>intro h e<;>(try simp only[e,go_sem])<;>clear e|rw[i64w (by omega)]|refine sd ?_<;>try simp only[go_sem]|fail)
  exact fin _ _ v _ _ 105701 105702 105703 hv (by simp only[go_sem]) (by simp only[go_sem]) (by decide) (by simp only[go_sem]) (by simp only[go_sem]) (by simp only[go_sem])
 rw[if_neg h4]
 have n4:=h4
 clear h4
 by_cases h5:hd=[102,111,114,103,101]
 ·rw[if_pos h5]
  simp only[ic26,go_sem]
  obtain⟨t,htd⟩:∃t,t=(if([102,111,114,103,101,32]:B).isPrefixOf line then line.drop ([102,111,114,103,101,32]:B).length else line):=⟨_,rfl⟩
  have f4:=c48 line [102,111,114,103,101,32] (by omega) (by simp)
  rw[←htd] at f4
  have htl:t.length≤1000:=by rw[htd];split<;>first|omega|(simp only[List.length_drop];omega)
  have hrd:pktRead t=pktRead (line.drop 6):=by rw[htd];exact forge_trim (by rw[hc,←hws,h5])
  have f5:=c47 t (by omega)
  have hpt:=pktRead_tl t (by omega)
  rw[←hrd]
  cases hp:pktRead t with
  | none =>
    rw[hp] at f5
    simp only[Option.getD_none,Option.isSome_none,Pk.zero,E.zero] at f5
    simp only[Option.getD_none,wDo_none]
    with_reducible repeat' (first|refine br ?_ ?_<;>intro h e<;>(try simp only[e,go_sem,eq_false n0,eq_false n1,eq_false n2,eq_false n3,eq_false n4,eq_true h5,getD_mp hz0,hg0,Int.reduceToNat,hi0])<;>clear e|rw[i64w (by omega)]|refine sd ?_<;>try simp only[go_sem,eq_false n0,eq_false n1,eq_false n2,eq_false n3,eq_false n4,eq_true h5,getD_mp hz0,hg0,Int.reduceToNat,hi0]|(first|refine cr (f1 ..) ?_|refine cr (f4 ..) ?_|refine cr (f5 ..) ?_)<;>try simp only[go_sem,eq_false n0,eq_false n1,eq_false n2,eq_false n3,eq_false n4,eq_true h5,getD_mp hz0,hg0,Int.reduceToNat,hi0]|fail)
    exact fin _ _ w _ _ 1 2 3 rfl (by simp only[go_sem]) (by simp only[go_sem]) (by decide) (by simp only[go_sem]) (by simp only[go_sem]) (by simp only[go_sem])
  | some p =>
    rw[hp] at f5 hpt
    simp only[Option.getD_some,Option.isSome_some] at f5 hpt ⊢
    with_reducible repeat' (first|refine br ?_ ?_<;>intro h e<;>(try simp only[e,go_sem,eq_false n0,eq_false n1,eq_false n2,eq_false n3,eq_false n4,eq_true h5,getD_mp hz0,hg0,Int.reduceToNat,hi0])<;>clear e|rw[i64w (by omega)]|refine sd ?_<;>try simp only[go_sem,eq_false n0,eq_false n1,eq_false n2,eq_false n3,eq_false n4,eq_true h5,getD_mp hz0,hg0,Int.reduceToNat,hi0]|(first|refine cr (f1 ..) ?_|refine cr (f4 ..) ?_|refine cr (f5 ..) ?_)<;>try simp only[go_sem,eq_false n0,eq_false n1,eq_false n2,eq_false n3,eq_false n4,eq_true h5,getD_mp hz0,hg0,Int.reduceToNat,hi0]|fail)
    refine callN (x45 w ⟨6,0,0,0,p⟩ hw.x (by simp only;omega)) [0,1,2,3] [] true 70 4 (by simp only[go_sem,Pk.zero,E.zero];first|done|simp[Pk.zero,E.zero]) (by simp only[go_sem];first|done|simp) (by simp) (by simp) (by simp) ?_ ?_ ?_
    ·rintro _ _ ⟨rfl,v',hv',rfl⟩
     exact⟨by simp,by simp,.inl rfl,fun i hi=>by obtain rfl:i=0:=(by omega);simp[chH,stepOk]⟩
    ·intro i hi
     rcases(show i=0∨i=1∨i=2∨i=3 by omega) with rfl|rfl|rfl|rfl<;>simp only[go_sem]
    rintro _ _ ⟨rfl,v,hv,rfl⟩
    simp only[go_sem]
    with_reducible repeat' (first|refine br ?_ ?_<;>intro h e<;>(try simp only[e,go_sem])<;>clear e|rw[i64w (by omega)]|refine sd ?_<;>try simp only[go_sem]|fail)
    exact fin _ _ v _ _ 107001 107002 107003 hv (by simp only[go_sem]) (by simp only[go_sem]) (by decide) (by simp only[go_sem]) (by simp only[go_sem]) (by simp only[go_sem])
 rw[if_neg h5]
 have n5:=h5
 clear h5
 by_cases h6:hd=[99,97,108,109]
 ·rw[if_pos h6]
  simp only[ic26,go_sem]
  with_reducible repeat' (first|refine br ?_ ?_<;>intro h e<;>(try simp only[e,go_sem,eq_false n0,eq_false n1,eq_false n2,eq_false n3,eq_false n4,eq_false n5,eq_true h6,getD_mp hz0,hg0,Int.reduceToNat,hi0])<;>clear e|rw[i64w (by omega)]|refine sd ?_<;>try simp only[go_sem,eq_false n0,eq_false n1,eq_false n2,eq_false n3,eq_false n4,eq_false n5,eq_true h6,getD_mp hz0,hg0,Int.reduceToNat,hi0]|(first|refine cr (f1 ..) ?_|refine cr (f2 ..) ?_|refine cr (f3 ..) ?_)<;>try simp only[go_sem,eq_false n0,eq_false n1,eq_false n2,eq_false n3,eq_false n4,eq_false n5,eq_true h6,getD_mp hz0,hg0,Int.reduceToNat,hi0]|fail)
  refine callN (c49 w hw.x) [0,1,2,3] [] true 74 4 (by simp only[go_sem,Pk.zero,E.zero];first|done|simp[Pk.zero,E.zero]) (by simp only[go_sem];first|done|simp) (by simp) (by simp) (by simp) ?_ ?_ ?_
  ·rintro _ _ ⟨rfl,v',hv',rfl⟩
   exact⟨by simp,by simp,.inl rfl,fun i hi=>by obtain rfl:i=0:=(by omega);simp[chH,stepOk]⟩
  ·intro i hi
   rcases(show i=0∨i=1∨i=2∨i=3 by omega) with rfl|rfl|rfl|rfl<;>simp only[go_sem]
  rintro _ _ ⟨rfl,v,hv,rfl⟩
  simp only[go_sem]
  with_reducible repeat' (first|refine br ?_ ?_<;>intro h e<;>(try simp only[e,go_sem])<;>clear e|rw[i64w (by omega)]|refine sd ?_<;>try simp only[go_sem]|fail)
  exact fin _ _ v _ _ 107401 107402 107403 hv (by simp only[go_sem]) (by simp only[go_sem]) (by decide) (by simp only[go_sem]) (by simp only[go_sem]) (by simp only[go_sem])
 rw[if_neg h6]
 have n6:=h6
 clear h6
 by_cases h7:hd=[109,97,112]
 ·rw[if_pos h7]
  simp only[ic26,go_sem]
  have hel:∀p∈w.door.map,((fun p:Pair=>dec p.port++(32::p.ins.text)) p).length≤200:=fun p hp=>by
   have l1:=dec_le2 p.port;have l2:=text_le5 p.ins;simp;omega
  obtain⟨LL,hLL⟩:∃LL:Nat→List B,LL=fun k=>(w.door.map.take k).map (fun p:Pair=>dec p.port++(32::p.ins.text)):=⟨_,rfl⟩
  have hL0:LL 0=[]:=by rw[hLL];simp
  have hLn:LL w.door.map.length=w.door.map.map (fun p:Pair=>dec p.port++(32::p.ins.text)):=by rw[hLL];simp
  have hLl:∀k,(LL k).length≤20:=fun k=>by rw[hLL];simp only[List.length_map,List.length_take];omega
  have hLs:∀k (h:k<w.door.map.length),LL (k+1)=LL k++[(fun p:Pair=>dec p.port++(32::p.ins.text)) w.door.map[k]]:=fun k h=>by
   rw[hLL]
   simp only
   rw[List.take_add_one,List.getElem?_eq_getElem h,List.map_append]
   rfl
  have hLw:(LL w.door.map.length).length=w.door.map.length:=by rw[hLn,List.length_map]
  clear hLL
  with_reducible repeat' (first|refine br ?_ ?_<;>intro h e<;>(try simp only[e,go_sem,eq_false n0,eq_false n1,eq_false n2,eq_false n3,eq_false n4,eq_false n5,eq_false n6,eq_true h7,getD_mp hz0,hg0,Int.reduceToNat,hi0])<;>clear e|rw[i64w (by omega)]|refine sd ?_<;>try simp only[go_sem,eq_false n0,eq_false n1,eq_false n2,eq_false n3,eq_false n4,eq_false n5,eq_false n6,eq_true h7,getD_mp hz0,hg0,Int.reduceToNat,hi0]|(first|refine cr (f1 ..) ?_|refine cr (f2 ..) ?_|refine cr (f3 ..) ?_)<;>try simp only[go_sem,eq_false n0,eq_false n1,eq_false n2,eq_false n3,eq_false n4,eq_false n5,eq_false n6,eq_true h7,getD_mp hz0,hg0,Int.reduceToNat,hi0]|fail)
  refine loopN (fun k:Nat=>⟨getL [(0,.pv 0 0),(8,.own 1077 (LL k).length),(82,.sl 3 (w.door.map.map Pair.row)),(83,.int .i64 w.door.map.length),(84,.int .i64 (k:Int))],getH [(0,.var 41 [.own 2 w.convs.length,.sl 3 (w.door.map.map Pair.row),.own 1 w.door.flows.length,.own 3 w.nets.length]),(1,.arr 181 8 (w.door.flows.map Flw.row)),(2,.arr 47 10 (w.convs.map Conv.row)),(3,.arr 70 7 (w.nets.map Pk.row)),(1077,.arr 9 1 ((LL k).map fun x=>[.str x]))]⟩) (fun k=>w.door.map.length - k) (fun k=>k≤w.door.map.length) 0 (by rw[hL0];exact(leQ [])) (Nat.zero_le _) ?_
  intro k hk
  simp only[go_sem]
  by_cases hkl:(k:Int)<w.door.map.length
  ·have hil:k<w.door.map.length:=by omega
   have hg:w.door.map.getD k default=w.door.map[k]:=by simp[List.getD,hil]
   have hm:=List.getElem_mem hil
   have hst:=hLs k hil
   have hJl:=hLl k
   try simp only at hst
   have hpo:=(mapOk_at hmk hil).1
   have g1:=c27 w.door.map[k].port (by omega)
   have g2:=c50 w.door.map[k].ins.a w.door.map[k].ins.p
   have l1:=dec_le2 w.door.map[k].port
   have l2:=text_le5 w.door.map[k].ins
   rw[show E.text ⟨w.door.map[k].ins.a,w.door.map[k].ins.p⟩=w.door.map[k].ins.text from rfl] at g2
   generalize w.door.map[k]=p at *
   generalize dec p.port=x at *
   generalize p.ins.text=y at *
   simp only[eq_true hkl,go_sem]
   with_reducible repeat' (first|rw[i64w (by omega)];try simp only[go_sem,getD_mp hil,hg,List.length_append,List.length_cons,List.length_nil,Nat.zero_add,Int.natCast_add,Int.natCast_one]|refine br ?_ ?_<;>intro h e<;>(try simp only[e,go_sem,getD_mp hil,hg,List.length_append,List.length_cons,List.length_nil,Nat.zero_add,Int.natCast_add,Int.natCast_one])<;>clear e|refine sd ?_<;>try simp only[go_sem,getD_mp hil,hg,List.length_append,List.length_cons,List.length_nil,Nat.zero_add,Int.natCast_add,Int.natCast_one]|(first|refine cr (g1 ..) ?_|refine cr (g2 ..) ?_)<;>try simp only[go_sem,getD_mp hil,hg,List.length_append,List.length_cons,List.length_nil,Nat.zero_add,Int.natCast_add,Int.natCast_one]|fail)
   all_goals first
    | (refine⟨k+1,by omega,by omega, ?_⟩;simp only[hst];refine leN [(1077,1098)] ?_ ?_ (by simp[getN]) (by simp only[go_sem])<;>simp only[go_sem]<;>(try simp);done)
    | trace_state
  ·simp only[eq_false hkl,go_sem]
   obtain rfl:k=w.door.map.length:=by omega
   have fc:=o51 (LL w.door.map.length) (hLl _) (fun x hx=>by
    rw[hLn] at hx
    obtain⟨p,hp,rfl⟩:=List.mem_map.1 hx
    exact Nat.le_trans (hel p hp) (by decide))
   rw[hLw] at fc ⊢
   rw[hLn] at fc ⊢
   with_reducible repeat' (first|refine br ?_ ?_<;>intro h e<;>(try simp only[e,go_sem])<;>clear e|rw[i64w (by omega)]|refine sd ?_<;>try simp only[go_sem]|fail)
   refine callU fc [1077] [] 101 0 (by simp only[go_sem];first|done|simp) (by simp only[go_sem];first|done|simp) (by simp) (by simp) (by rintro _ _ ⟨rfl,rfl⟩;simp) (by intro i hi;omega) ?_
   rintro _ _ ⟨rfl,rfl⟩
   simp only[go_sem]
   with_reducible repeat' (first|refine br ?_ ?_<;>intro h e<;>(try simp only[e,go_sem])<;>clear e|rw[i64w (by omega)]|refine sd ?_<;>try simp only[go_sem]|fail)
   exact fin _ _ w _ _ 1 2 3 rfl (by simp only[go_sem]) (by simp only[go_sem]) (by decide) (by simp only[go_sem]) (by simp only[go_sem]) (by simp only[go_sem])
 rw[if_neg h7]
 have n7:=h7
 clear h7
 by_cases h8:hd=[110,101,116,115]
 ·rw[if_pos h8]
  simp only[ic26,go_sem]
  have hel:∀p∈w.nets,(pktText p).length≤200:=fun p hp=>by
   have l1:=pktText_len p;have l2:=(hw.net p hp).pk.len;omega
  obtain⟨LL,hLL⟩:∃LL:Nat→List B,LL=fun k=>(w.nets.take k).map pktText:=⟨_,rfl⟩
  have hL0:LL 0=[]:=by rw[hLL];simp
  have hLn:LL w.nets.length=w.nets.map pktText:=by rw[hLL];simp
  have hLl:∀k,(LL k).length≤20:=fun k=>by rw[hLL];simp only[List.length_map,List.length_take];omega
  have hLs:∀k (h:k<w.nets.length),LL (k+1)=LL k++[pktText w.nets[k]]:=fun k h=>by
   rw[hLL]
   simp only
   rw[List.take_add_one,List.getElem?_eq_getElem h,List.map_append]
   rfl
  have hLw:(LL w.nets.length).length=w.nets.length:=by rw[hLn,List.length_map]
  clear hLL
  with_reducible repeat' (first|refine br ?_ ?_<;>intro h e<;>(try simp only[e,go_sem,eq_false n0,eq_false n1,eq_false n2,eq_false n3,eq_false n4,eq_false n5,eq_false n6,eq_false n7,eq_true h8,getD_mp hz0,hg0,Int.reduceToNat,hi0])<;>clear e|rw[i64w (by omega)]|refine sd ?_<;>try simp only[go_sem,eq_false n0,eq_false n1,eq_false n2,eq_false n3,eq_false n4,eq_false n5,eq_false n6,eq_false n7,eq_true h8,getD_mp hz0,hg0,Int.reduceToNat,hi0]|(first|refine cr (f1 ..) ?_|refine cr (f2 ..) ?_|refine cr (f3 ..) ?_)<;>try simp only[go_sem,eq_false n0,eq_false n1,eq_false n2,eq_false n3,eq_false n4,eq_false n5,eq_false n6,eq_false n7,eq_true h8,getD_mp hz0,hg0,Int.reduceToNat,hi0]|fail)
  refine loopN (fun k:Nat=>⟨getL [(0,.pv 0 0),(11,.own 1104 (LL k).length),(108,.own 3 w.nets.length),(109,.int .i64 w.nets.length),(110,.int .i64 (k:Int))],getH [(0,.var 41 [.own 2 w.convs.length,.sl 3 (w.door.map.map Pair.row),.own 1 w.door.flows.length,.own 3 w.nets.length]),(1,.arr 181 8 (w.door.flows.map Flw.row)),(2,.arr 47 10 (w.convs.map Conv.row)),(3,.arr 70 7 (w.nets.map Pk.row)),(1104,.arr 9 1 ((LL k).map fun x=>[.str x]))]⟩) (fun k=>w.nets.length - k) (fun k=>k≤w.nets.length) 0 (by rw[hL0];exact(leQ [])) (Nat.zero_le _) ?_
  intro k hk
  simp only[go_sem]
  by_cases hkl:(k:Int)<w.nets.length
  ·have hil:k<w.nets.length:=by omega
   have hg:w.nets.getD k default=w.nets[k]:=by simp[List.getD,hil]
   have hm:=List.getElem_mem hil
   have hst:=hLs k hil
   have hJl:=hLl k
   try simp only at hst
   have l1:=pktText_len w.nets[k]
   have l2:=(hw.net _ hm).pk.len
   have g1:=c52 w.nets[k] (by omega)
   generalize w.nets[k]=p at *
   generalize pktText p=x at *
   simp only[eq_true hkl,go_sem]
   with_reducible repeat' (first|rw[i64w (by omega)];try simp only[go_sem,getD_mp hil,hg,List.length_append,List.length_cons,List.length_nil,Nat.zero_add,Int.natCast_add,Int.natCast_one]|refine br ?_ ?_<;>intro h e<;>(try simp only[e,go_sem,getD_mp hil,hg,List.length_append,List.length_cons,List.length_nil,Nat.zero_add,Int.natCast_add,Int.natCast_one])<;>clear e|refine sd ?_<;>try simp only[go_sem,getD_mp hil,hg,List.length_append,List.length_cons,List.length_nil,Nat.zero_add,Int.natCast_add,Int.natCast_one]|(first|refine cr (g1 ..) ?_)<;>try simp only[go_sem,getD_mp hil,hg,List.length_append,List.length_cons,List.length_nil,Nat.zero_add,Int.natCast_add,Int.natCast_one]|fail)
   all_goals first
    | (refine⟨k+1,by omega,by omega, ?_⟩;simp only[hst];refine leN [(1104,1118)] ?_ ?_ (by simp[getN]) (by simp only[go_sem])<;>simp only[go_sem]<;>(try simp);done)
    | trace_state
  ·simp only[eq_false hkl,go_sem]
   obtain rfl:k=w.nets.length:=by omega
   have fc:=o51 (LL w.nets.length) (hLl _) (fun x hx=>by
    rw[hLn] at hx
    obtain⟨p,hp,rfl⟩:=List.mem_map.1 hx
    exact Nat.le_trans (hel p hp) (by decide))
   rw[hLw] at fc ⊢
   rw[hLn] at fc ⊢
   with_reducible repeat' (first|refine br ?_ ?_<;>intro h e<;>(try simp only[e,go_sem])<;>clear e|rw[i64w (by omega)]|refine sd ?_<;>try simp only[go_sem]|fail)
   refine callU fc [1104] [] 121 0 (by simp only[go_sem];first|done|simp) (by simp only[go_sem];first|done|simp) (by simp) (by simp) (by rintro _ _ ⟨rfl,rfl⟩;simp) (by intro i hi;omega) ?_
   rintro _ _ ⟨rfl,rfl⟩
   simp only[go_sem]
   with_reducible repeat' (first|refine br ?_ ?_<;>intro h e<;>(try simp only[e,go_sem])<;>clear e|rw[i64w (by omega)]|refine sd ?_<;>try simp only[go_sem]|fail)
   exact fin _ _ w _ _ 1 2 3 rfl (by simp only[go_sem]) (by simp only[go_sem]) (by decide) (by simp only[go_sem]) (by simp only[go_sem]) (by simp only[go_sem])
 rw[if_neg h8]
 have n8:=h8
 clear h8
 simp only[ic26,go_sem]
 with_reducible repeat' (first|refine br ?_ ?_<;>intro h e<;>(try simp only[e,go_sem,eq_false n0,eq_false n1,eq_false n2,eq_false n3,eq_false n4,eq_false n5,eq_false n6,eq_false n7,eq_false n8,getD_mp hz0,hg0,Int.reduceToNat,hi0])<;>clear e|rw[i64w (by omega)]|refine sd ?_<;>try simp only[go_sem,eq_false n0,eq_false n1,eq_false n2,eq_false n3,eq_false n4,eq_false n5,eq_false n6,eq_false n7,eq_false n8,getD_mp hz0,hg0,Int.reduceToNat,hi0]|(first|refine cr (f1 ..) ?_|refine cr (f2 ..) ?_|refine cr (f3 ..) ?_)<;>try simp only[go_sem,eq_false n0,eq_false n1,eq_false n2,eq_false n3,eq_false n4,eq_false n5,eq_false n6,eq_false n7,eq_false n8,getD_mp hz0,hg0,Int.reduceToNat,hi0]|fail)
 exact fin _ _ w _ _ 1 2 3 rfl (by simp only[go_sem]) (by simp only[go_sem]) (by decide) (by simp only[go_sem]) (by simp only[go_sem]) (by simp only[go_sem])
def adr (u:Bool):V:=bif u then .pv 0 0 else .nilp
def byV (s:B):List (List V):=s.map fun b=>[.int .u8 (b.toNat:Int)]
def bldH (u:Bool) (s:B):List Hs:=[.var 50 [adr u,.own 1 s.length],.arr 5 1 (byV s)]
theorem bldLays240:Go.Proofs.Lays.n240 Tryz.prog bldRen:={ bldLays with }
theorem e43:entr Tryz.prog 43=true:=by kernel_rfl
theorem o43 (u:Bool) (s:B):FnP Tryz.prog G 43 2 (bldH u s) [.pv 0 0] (fun r o=>r=.tup []∧o=bldH true s) where
 en:=e43
 ne:=⟨_,_,rfl,rfl⟩
 run:=fun W ρ ext us hg hlt hno hng r hargs=>by
  obtain⟨p0,rfl,hd⟩:=us_one hargs
  have hB:BaseOk G ⟨W,blocks ρ (chH (bldH u s)),ext,2,ρ⟩:=⟨hlt,hno,hg,hng⟩
  have h0:chH (bldH u s) 0=.var 50 [adr u,.own 1 s.length]:=rfl
  have hp:p0=.pointer (some ⟨(ρ 0).blk,(ρ 0).off,none⟩):=by simpa only[Den,Den2,Den1,Den0,h0,Nat.add_zero] using hd
  have hch:=r.chunk 0
  rw[h0] at hch
  obtain⟨hnil,cs,hb,⟨hoff,hsz⟩,hcell⟩:=hch
  obtain⟨p,hp0,hp1,hpd⟩:=hcell 0 _ rfl
  obtain⟨v,hv0,hv1,hvd⟩:=hcell 1 _ rfl
  have hsz2:cs.size=2:=hsz.symm
  rw[hoff] at hp hp0 hv0
  subst hp
  have c0:W.cell? ⟨(ρ 0).blk,0,none⟩=some p:=by simpa[World.cell?,hb] using hp0
  have hsh:W.shape? (ρ 0).blk=some (50,2):=by simp[World.shape?,hb,hsz2]
  have hfz:W.frozen? ⟨(ρ 0).blk,0,none⟩=false:=by simp[World.frozen?,hb]
  have dtup:∀(w':World) (O:Nat→Prop) (h:Nat→Hs),Den w' O ρ h (.tup []) (.tuple #[]):=fun w' O h=>⟨[],rfl,rfl,fun j v x hv=>by simp at hv⟩
  cases u
  ·have hpn:p=.pointer none:=by
    have:Imm W (owns ⟨W,blocks ρ (chH (bldH false s)),ext,2,ρ⟩ ρ (chH (bldH false s))) .nilp p:=hpd
    cases this;rfl
   subst hpn
   refine(Any.Builder_copyCheck_fresh bldLays240 bldExtra.toX72 (ρ 0).blk W c0 hsh hfz).mono fun e w' ⟨he,hw⟩=>?_
   obtain⟨k1,k2,k3,k4,k5⟩:=setCells_frame (ρ 0).blk [.pointer (some ⟨(ρ 0).blk,0,none⟩)] 0 W
   obtain⟨cs',m1,m2,m3⟩:=setCells_block (ρ 0).blk 50 (0,0) [.pointer (some ⟨(ρ 0).blk,0,none⟩)] 0 W cs hb (by simp[hsz2])
   have hw':w'=W.setCells (ρ 0).blk 0 [.pointer (some ⟨(ρ 0).blk,0,none⟩)]:=hw
   rw[←hw'] at k1 k2 k3 k4 k5 m1
   have ht:=r.write hB (c:=0) (s:=.var 50 [.pv 0 0,.own 1 s.length]) (by rw[h0];rfl) hnil k1 k2 k3 k4 k5 (.inr (.inr ⟨rfl,.inr (.inl ⟨_,_,_,_,h0,rfl⟩)⟩)) fun O' h' hden himm=>by
    refine⟨hnil,cs',m1,⟨hoff,by simp[m2,hsz2]⟩,fun j x hx=>?_⟩
    rw[hoff,m3]
    match j,hx with
    | 0,hx =>
      cases hx
      refine⟨.pointer (some ⟨(ρ 0).blk,0,none⟩),by simp,rfl,hden _ _ ?_⟩
      simp only[Den1,Den0,h0,hoff,Nat.add_zero]
    | 1,hx =>
      cases hx
      exact⟨v,by simpa using hv0,hv1,hden _ _ hvd⟩
    | j+2,hx=>simp at hx
   have hup:upH (chH (bldH false s)) [(0,.var 50 [.pv 0 0,.own 1 s.length])]=chH (bldH true s):=by
    funext c
    match c with
    | 0=>rfl
    | 1=>rfl
    | c+2=>simp[upH,chH,bldH]
   have hr:=ht.rel
   rw[hup] at hr
   exact⟨_,_,_,ρ,he,⟨rfl,rfl⟩,hr,dtup _ _ _⟩
  ·have hps:p=.pointer (some ⟨(ρ 0).blk,0,none⟩):=by
    have:Den1 W (owns ⟨W,blocks ρ (chH (bldH true s)),ext,2,ρ⟩ ρ (chH (bldH true s))) ρ (chH (bldH true s)) (.pv 0 0) p:=hpd
    simpa only[Den1,Den0,h0,hoff,Nat.add_zero] using this
   subst hps
   refine(Any.Builder_copyCheck_used bldLays240 bldExtra.toX72 (ρ 0).blk W c0).mono fun e w' ⟨he,hw⟩=>?_
   subst hw
   exact⟨_,_,_,ρ,he,⟨rfl,rfl⟩,r,dtup _ _ _⟩
theorem byV_app (s t:B):byV (s++t)=byV s++byV t:=by simp[byV]
theorem byV_len (s:B):(byV s).length=s.length:=by simp[byV]
def ic25:IC:=sR [oP 4 (.mv (.c i0)),oP 5 (.mv (.c .nile))] (sR [mV 6 0,oP 7 (.call 43 [.t 6])] (sR [mV 8 0,mV 9 0,oP 10 (.nilc (.t 9)),fD 11 1 10,lD 12 1 11,mV 13 1,oP 14 (.aps 5 (.t 12) (.t 13)),oP 15 (.nilc (.t 8)),fD 16 1 15,nP (.sto 1 (.t 16) (.t 14))] (sR [mV 17 1,oP 18 (.lens (.t 17)),mV 4 18,oP 5 (.mv (.c .nile))] .ret)))
theorem dg25:Dg Tryz.prog 25 Tryz.f25 ic25 [(.t 4),(.t 5)]:=⟨Tryz.func25,by kernel_rfl,by kernel_rfl⟩
theorem o25 (u:Bool) (s t:B) (hl:s.length+t.length≤2000000):FnP Tryz.prog G 25 1 (bldH u s) [.pv 0 0,.str t] (fun r o=>r=.tup [.int .i64 (t.length:Int),.nile]∧o=bldH true (s++t)):=by
 refine mP dg25 Tryz.ntmps25 ⟨_,_,rfl,rfl⟩ ?_
 have hb:s.map (fun b=>[V.int .u8 (b.toNat:Int)])=byV s:=rfl
 have hb2:t.map (fun b=>[V.int .u8 (b.toNat:Int)])=byV t:=rfl
 cases u
 ·simp only[ic25,go_sem,bldH,adr,cond_true,cond_false]
  refine callN (o43 false s) [0,1] [] true 7 2 (by simp only[go_sem,bldH,adr,cond_true,cond_false];first|done|simp) (by simp only[go_sem,bldH,adr,cond_true,cond_false];first|done|simp) (by simp) (by simp) (by simp) ?_ ?_ ?_
  ·rintro _ _ ⟨rfl,rfl⟩
   exact⟨by simp[bldH],by simp[bldH],.inl rfl,fun i hi=>by rcases(show i=0∨i=1 by omega) with rfl|rfl<;>simp[chH,stepOk,bldH]⟩
  ·intro i hi;rcases(show i=0∨i=1 by omega) with rfl|rfl<;>simp only[go_sem]
  rintro _ _ ⟨rfl,rfl⟩
  simp only[go_sem,bldH,adr,cond_true,hb2]
  refine effG ⟨byV_len s,by rw[byV_len];exact hl⟩ ?_
  simp only[go_sem,byV_len]
  with_reducible repeat' (first|refine br ?_ ?_<;>intro h e<;>(try simp only[e,go_sem])<;>clear e|rw[i64w (by omega)]|refine sd ?_<;>try simp only[go_sem]|fail)
  refine retN (.tup [.int .i64 (t.length:Int),.nile]) (bldH true (s++t)) [(1,1014)] ?_ ⟨rfl,rfl⟩ ?_ (by simp[argH,getN,bldH]) (by simp only[go_sem,bldH,adr,cond_true])
  ·simp only[go_sem]
  ·simp only[go_sem,bldH,adr,cond_true,byV_app,List.length_append]
   try simp
 ·simp only[ic25,go_sem,bldH,adr,cond_true,cond_false]
  refine callN (o43 true s) [0,1] [] true 7 2 (by simp only[go_sem,bldH,adr,cond_true,cond_false];first|done|simp) (by simp only[go_sem,bldH,adr,cond_true,cond_false];first|done|simp) (by simp) (by simp) (by simp) ?_ ?_ ?_
  ·rintro _ _ ⟨rfl,rfl⟩
   exact⟨by simp[bldH],by simp[bldH],.inl rfl,fun i hi=>by rcases(show i=0∨i=1 by omega) with rfl|rfl<;>simp[chH,stepOk,bldH]⟩
  ·intro i hi;rcases(show i=0∨i=1 by omega) with rfl|rfl<;>simp only[go_sem]
  rintro _ _ ⟨rfl,rfl⟩
  simp only[go_sem,bldH,adr,cond_true,hb2]
  refine effG ⟨byV_len s,by rw[byV_len];exact hl⟩ ?_
  simp only[go_sem,byV_len]
  with_reducible repeat' (first|refine br ?_ ?_<;>intro h e<;>(try simp only[e,go_sem])<;>clear e|rw[i64w (by omega)]|refine sd ?_<;>try simp only[go_sem]|fail)
  refine retN (.tup [.int .i64 (t.length:Int),.nile]) (bldH true (s++t)) [(1,1014)] ?_ ⟨rfl,rfl⟩ ?_ (by simp[argH,getN,bldH]) (by simp only[go_sem,bldH,adr,cond_true])
  ·simp only[go_sem]
  ·simp only[go_sem,bldH,adr,cond_true,byV_app,List.length_append]
   try simp
set_option maxHeartbeats 2000000 in
set_option maxRecDepth 100000 in
theorem m28 (b g cap:Nat) (cur:Array Value) (p:Value) (l:List UInt8) (w:World) (h0:l≠[]) (hll:l.length≤2000000) (hcap:l.length≤cap)
 (hbk:w.heap[b]?=some (.cells #[p,.slice (some ⟨g,0,none⟩) l.length cap] 50 (0,0))) (hg:w.heap[g]?=some (.cells cur 5 (0,0))) (hcs:cur.size=cap)
 (hcell:∀j x,l[j]?=some x→w.cell? ⟨g,j,none⟩=some (.int .u8 x.toNat)) :
 Calls Tryz.prog 28 #[.pointer (some ⟨b,0,none⟩)] w fun e w'=>e=.returned (.string ⟨l.toArray⟩)∧w'=w.drew.freeze ⟨g,0,none⟩ l.length:=by
 have L:=Tryz.lays169
 have X:=Tryz.Builder_Extra_169
 have hl0:l.length≠0:=by simpa using h0
 have c1:w.drew.cell? ⟨b,1,none⟩=some (.slice (some ⟨g,0,none⟩) l.length cap):=by
  have:w.drew.heap[b]?=some (.cells #[p,.slice (some ⟨g,0,none⟩) l.length cap] 50 (0,0)):=hbk
  rw[Lib.cell_of_heap this];rfl
 have hSD:(Builtin.unsafeSliceData_ #[22] 89 #[.slice (some ⟨g,0,none⟩) l.length cap]).run Tryz.prog w.drew=.ok (.pointer (some ⟨g,0,none⟩)) w.drew :=
  Lib.run_unsafeSliceData_row _ _ _ _ _ _ (by omega)
 have hUS:(Builtin.unsafeString_ #[89,3] 9 #[.pointer (some ⟨g,0,none⟩),.int .i64 l.length]).run Tryz.prog w.drew=.ok (.string ⟨l.toArray⟩) (w.drew.freeze ⟨g,0,none⟩ l.length):=by
  refine Lib.run_unsafeString_row w.drew 89 3 9 5 L.t127 X.cellsByte g cur.size (by have hg':w.drew.heap[g]?=some (.cells cur 5 (0,0)):=hg;simp[World.shape?,hg']) l h0 (by omega) (by omega) ?_
  intro j x hx
  have h1:=hcell j x hx
  have h2:((⟨g,0,none⟩:Addr).add j)=⟨g,j,none⟩:=by
   cases j<;>simp[Addr.add]
  rw[h2]
  exact h1
 have mixed:=L.mixed
 have t72:=L.t72;have a72:=L.a72;have z72:=L.z72;have v72:=L.v72;have u72:=run_underlying L.t72
 have t70:=L.t70;have a70:=L.a70;have z70:=L.z70;have v70:=L.v70;have u70:=run_underlying L.t70
 have t37:=L.t37;have a37:=L.a37;have z37:=L.z37;have v37:=L.v37;have u37:=run_underlying L.t37
 have t127:=L.t127;have a127:=L.a127;have z127:=L.z127;have v127:=L.v127;have u127:=run_underlying L.t127
 have t3:=L.t3;have a3:=L.a3;have z3:=L.z3;have v3:=L.v3;have u3:=run_underlying L.t3
 have t9:=L.t9;have a9:=L.a9;have z9:=L.z9;have v9:=L.v9;have u9:=run_underlying L.t9
 have t5:=X.t5;have a5:=X.a5;have z5:=X.z5;have v5:=X.v5;have u5:=run_underlying X.t5
 go_enter Tryz.func28,Tryz.ntmps28
 go_wp2
 go_region_o
 all_goals(go_wp2;go_ret;exact⟨rfl,rfl⟩)
theorem e28:entr Tryz.prog 28=true:=by kernel_rfl
theorem o28 (s:B) (h0:s≠[]) (hl:s.length≤2000000):FnP Tryz.prog G 28 0 (bldH true s) [.pv 0 0] (fun r o=>r=.str s∧o=[]) where
 en:=e28
 ne:=⟨_,_,rfl,rfl⟩
 run:=fun W ρ ext us hg hlt hno hng r hargs=>by
  obtain⟨p0,rfl,hd⟩:=us_one hargs
  have h0':chH (bldH true s) 0=.var 50 [.pv 0 0,.own 1 s.length]:=rfl
  have h1':chH (bldH true s) 1=.arr 5 1 (byV s):=rfl
  have hp:p0=.pointer (some ⟨(ρ 0).blk,(ρ 0).off,none⟩):=by simpa only[Den,Den2,Den1,Den0,h0',Nat.add_zero] using hd
  have hch:=r.chunk 0
  rw[h0'] at hch
  obtain⟨hnil,cs,hb,⟨hoff,hsz⟩,hcell⟩:=hch
  obtain⟨p,hp0,hp1,hpd⟩:=hcell 0 _ rfl
  obtain⟨v,hv0,hv1,hvd⟩:=hcell 1 _ rfl
  have hsz2:cs.size=2:=hsz.symm
  rw[hoff] at hp hp0 hv0
  subst hp
  have hc1:=r.chunk 1
  rw[h1'] at hc1
  rcases hc1 with⟨_,hrn,_⟩|⟨hnil1,cs1,hb1,⟨_,hex⟩,hlc,hlen,hcells⟩
  ·exact absurd (List.map_eq_nil_iff.1 hrn) h0
  obtain⟨hoff1,hsz1⟩:=hex rfl
  rw[byV_len] at hlc
  have hv:v=.slice (some ⟨(ρ 1).blk,0,none⟩) s.length (ρ 1).cap:=by
   have:Den1 W (owns ⟨W,blocks ρ (chH (bldH true s)),ext,0,ρ⟩ ρ (chH (bldH true s))) ρ (chH (bldH true s)) (.own 1 s.length) v:=hvd
   simp only[Den1,Den0,h1'] at this
   rw[this]
   simp[VL.Loc.sl,VL.Loc.addr,hnil1,hoff1]
  have hcs:cs=#[p,v]:=by
   apply Array.ext_getElem?
   intro i
   match i with
   | 0=>simpa using hp0
   | 1=>simpa using hv0
   | i+2=>rw[Array.getElem?_eq_none (by omega),Array.getElem?_eq_none (by simp)]
  subst hcs
  subst hv
  have hbyte:∀j x,s[j]?=some x→W.cell? ⟨(ρ 1).blk,j,none⟩=some (.int .u8 x.toNat):=fun j x hx=>by
   have hr:(byV s)[j]?=some [.int .u8 (x.toNat:Int)]:=by simp[byV,hx]
   obtain⟨u,a1,a2⟩:=hcells j _ 0 _ hr rfl
   rw[hoff1,show 0+(j*1+0)=j by omega] at a1
   have:u=.int .u8 (x.toNat:Int):=by cases a2;rfl
   subst this
   simpa[World.cell?,hb1] using a1
  refine(m28 (ρ 0).blk (ρ 1).blk (ρ 1).cap cs1 p s W h0 hl hlc hb hb1 hsz1 hbyte).mono fun e w' ⟨he,hw⟩=>?_
  have hfz:∀(x:World) (a:Addr) (n:Nat),(x.freeze a n).os=x.os∧(x.freeze a n).tape=x.tape∧(x.freeze a n).output=x.output∧(x.freeze a n).heap.size=x.heap.size∧∀k,k≠a.block→(x.freeze a n).heap[k]?=x.heap[k]?:=fun x a n=>by
   unfold World.freeze
   split
   ·exact⟨rfl,rfl,rfl,rfl,fun _ _=>rfl⟩
   ·exact⟨rfl,rfl,rfl,by simp,fun k hk=>by simp only[Array.getElem?_modify];rw[if_neg (fun e=>hk e.symm)]⟩
  obtain⟨f1,f2,f3,f4,f5⟩:=hfz W.drew ⟨(ρ 1).blk,0,none⟩ s.length
  rw[←hw] at f1 f2 f3 f4 f5
  have hc:chH []=fun _=>.fresh:=by funext x;simp[chH]
  refine⟨_,_,[],fun _=>default,he,⟨rfl,rfl⟩,⟨f1,f2,f3,Nat.le_of_eq f4.symm,fun b hb1' hb2=>f5 b fun hx=>hb2 ⟨1,rfl,hnil1,hx.symm⟩,fun c=>(by rw[hc];trivial),fun c hl=>(by rw[hc] at hl;cases hl),fun c c' hl=>(by rw[hc] at hl;cases hl),fun i hi=>absurd hi (Nat.not_lt_zero _)⟩,Imm.str _⟩
theorem cutB_no {s:B} (h:(10:UInt8)∉s):cutB s 10=(s,[],false):=by simp[cutB,h]
theorem cutB_yes {s:B} (h:(10:UInt8)∈s):∃l r,s=l++10::r∧cutB s 10=(l,r,true)∧cutAll 10 s=l::cutAll 10 r:=by
 obtain⟨us,bs,hs,hna⟩:=List.eq_append_cons_of_mem h
 subst hs
 have hall:∀x∈us,decide (x≠10)=true:=fun x hx=>decide_eq_true fun e=>hna (e▸hx)
 refine⟨us,bs,rfl, ?_, ?_⟩
 ·unfold cutB
  rw[if_pos h,List.takeWhile_append_of_pos hall,List.dropWhile_append_of_pos hall]
  simp
 ·rw[cutAll_app,cutAll_one hna]
  rfl
def ic15:IC:=sR [oP 6 (.mv (.c s0))] (sR [oP 15 (.build [i0,i0] [(0,(1,.c (.int .i64 1))),(1,(1,.c (.int .i64 1)))]),oP 16 (.build [i0,i0] [(0,(1,.c (.int .i64 4))),(1,(1,.c (.int .i64 4)))]),mV 17 0,mV 18 1,oP 19 (.build [i0,i0,i0,i0,s0,s0,i0,i0,s0,s0] [(0,(2,.t 15)),(2,(2,.t 16)),(4,(1,.t 17)),(5,(1,.t 18))]),oP 20 (.bsl 47 10 [.t 19]),oP 21 (.call 23 [.t 20]),mV 14 21,eX 22 14 0,eX 23 14 1,oP 7 (.alloc 41 [.nils,.nils,.nils,.nils]),nP (.sto 4 (.t 7) (.t 22)),mV 8 23] (.seq (.block 0 (sR [mV 25 8,oP 26 (.un .not (.t 25)),mV 24 26] (.cond (.t 24) (sR [oP 6 (.mv (.c (.str [110,111,32,119,111,114,108,100,10])))] .ret) (sR [mV 28 2,oP 29 (.lens (.t 28)),oP 30 (.bin .gtr (.t 29) (.c (.int .i64 600))),mV 27 30] (.cond (.t 27) (sR [oP 6 (.mv (.c (.str [116,111,111,32,108,111,110,103,10])))] .ret) .skip))))) (sR [oP 9 (.alloc 50 [.nilp,.nils])] (.seq (.block 1 (.loop (.block 2 (sR [mV 32 2,oP 33 (.call 24 [.t 32,.c (.str [10])]),mV 31 33,eX 34 31 0,eX 35 31 1,eX 36 31 2,mV 10 34,mV 11 35,mV 12 36] (.seq (sR [mV 37 12,oP 38 (.un .not (.t 37))] (.cond (.t 38) (.exit 1) .skip)) (sR [mV 39 10,oP 40 (.call 26 [.t 7,.t 39]),oP 41 (.call 25 [.t 9,.t 40])] (.reg [mV 42 11,mV 2 42]))))))) (sR [fD 43 0 7,lD 44 1 43,oP 45 (.iad 10 (.t 44) (.c i0)),lA 46 10 45,oP 13 (.alloc 47 [i0,i0,i0,i0,s0,s0,i0,i0,s0,s0]),nP (.sto 10 (.t 13) (.t 46))] (.seq (.drw [0,1,3,7,15,0,32,127,255,511] [(0,fD 47 6 13),(1,lD 48 1 47),(2,oP 49 (.call 27 [.t 48])),(3,oP 50 (.bin .add (.c (.str [117,112,32])) (.t 49))),(4,oP 51 (.bin .add (.t 50) (.c (.str [32])))),(5,fD 52 8 13),(6,lD 53 1 52),(7,bN 54 .add 51 53),(8,oP 55 (.bin .add (.t 54) (.c (.str [10])))),(9,oP 56 (.call 25 [.t 9,.t 55]))]) (.seq (.drw [0,1,3,7,15,0,32,127,255,511] [(0,fD 57 7 13),(1,lD 58 1 57),(2,oP 59 (.call 27 [.t 58])),(3,oP 60 (.bin .add (.c (.str [100,111,119,110,32])) (.t 59))),(4,oP 61 (.bin .add (.t 60) (.c (.str [32])))),(5,fD 62 9 13),(6,lD 63 1 62),(7,bN 64 .add 61 63),(8,oP 65 (.bin .add (.t 64) (.c (.str [10])))),(9,oP 66 (.call 25 [.t 9,.t 65]))]) (sR [oP 67 (.call 28 [.t 9]),mV 6 67] .ret))))))))
theorem dg15:Dg Tryz.prog 15 Tryz.f15 ic15 [(.t 6)]:=⟨Tryz.func15,by kernel_rfl,by kernel_rfl⟩
set_option maxHeartbeats 8000000 in
theorem c15 (up down text:B) (h1:up.length≤2000000) (h2:down.length≤2000000) (h3:text.length≤2000000):FnR Tryz.prog G 15 [.str up,.str down,.str text] (.str (linesRun up down text)):=by
 refine mF dg15 Tryz.ntmps15 ?_
 have hone:([lineConv up down]:List Conv).length=1:=rfl
 simp only[ic15,go_sem]
 with_reducible repeat' (first|refine br ?_ ?_<;>intro h e<;>(try simp only[e,go_sem])<;>clear e|rw[i64w (by omega)]|refine sd ?_<;>try simp only[go_sem]|fail)
 simp only[line_hlit]
 refine callN (c23 [lineConv up down] (by simp) (by simp[lineConv];omega)) [] [1020] false 21 1 (by simp only[go_sem];first|done|simp) trivial (by simp) (by simp) (by simp only[List.mem_singleton];rintro c rfl;exact⟨rfl,by simp⟩) ?_ ?_ ?_
 ·rintro _ _ (⟨w,h,rfl,rfl⟩|⟨h,rfl,rfl⟩)
  ·refine⟨by simp,by simp,.inr ⟨by simp[V.plain,V.plain2,V.plain1,V.plain0], ?_⟩,fun i hi=>by omega⟩
   intro s hs
   simp only[List.mem_singleton] at hs
   subst hs
   exact cvP _
  ·exact⟨by simp,by simp,.inr ⟨by simp[V.plain,V.plain2,V.plain1,V.plain0],by simp⟩,fun i hi=>by omega⟩
 ·intro i hi;obtain rfl:i=0:=(by omega);simp only[go_sem]
 rintro _ _ (⟨w,hw,rfl,rfl⟩|⟨hw,rfl,rfl⟩)
 rotate_left
 ·have e:linesRun up down text=[110,111,32,119,111,114,108,100,10]:=by simp only[linesRun,hw]
  rw[e]
  simp only[go_sem]
  with_reducible repeat' (first|refine br ?_ ?_<;>intro h e<;>(try simp only[e,go_sem])<;>clear e|rw[i64w (by omega)]|refine sd ?_<;>try simp only[go_sem]|fail)
 by_cases h6:(600:Int)<text.length
 ·have e:linesRun up down text=[116,111,111,32,108,111,110,103,10]:=by simp only[linesRun,hw];rw[if_pos (by omega)]
  rw[e]
  simp only[go_sem,eq_true h6]
  with_reducible repeat' (first|refine br ?_ ?_<;>intro h e<;>(try simp only[e,go_sem,eq_true h6])<;>clear e|rw[i64w (by omega)]|refine sd ?_<;>try simp only[go_sem,eq_true h6]|fail)
 have e:linesRun up down text=(linesDo w (cutAll 10 text).dropLast).2++linesEnd (linesDo w (cutAll 10 text).dropLast).1:=by simp only[linesRun,hw];rw[if_neg (by omega)]
 rw[e]
 clear e
 have hsi:=lines_calm hw []
 have hcon:=lines_one hw []
 obtain⟨_,_,hz,hn0⟩:=worldNew_is hw
 simp only[go_sem,eq_false h6]
 with_reducible repeat' (first|refine br ?_ ?_<;>intro h e<;>(try simp only[e,go_sem,eq_false h6])<;>clear e|rw[i64w (by omega)]|refine sd ?_<;>try simp only[go_sem,eq_false h6]|fail)
 refine loopN (fun a:B×M.World×B×Bool=>⟨getL [(2,.str a.1),(7,.pv 1007 0),(9,.pv 1009 0)],getH [(1007,.var 41 [.own 102100 a.2.1.convs.length,.sl 3 (a.2.1.door.map.map Pair.row),.own 200001 a.2.1.door.flows.length,.own 200003 a.2.1.nets.length]),(200001,.arr 181 8 (a.2.1.door.flows.map Flw.row)),(102100,.arr 47 10 (a.2.1.convs.map Conv.row)),(200003,.arr 70 7 (a.2.1.nets.map Pk.row)),(1009,.var 50 [bif a.2.2.2 then .pv 1009 0 else .nilp,.own 200009 a.2.2.1.length]),(200009,.arr 5 1 (byV a.2.2.1))]⟩)
  (fun a=>a.1.length) (fun a=>a.1.length≤text.length∧SI CK CN a.2.1∧a.2.1.convs.length=1∧a.2.2.1.length+2100*a.1.length≤2100*text.length∧linesDo w (cutAll 10 text).dropLast=((linesDo a.2.1 (cutAll 10 a.1).dropLast).1,a.2.2.1++(linesDo a.2.1 (cutAll 10 a.1).dropLast).2)) (text,w,[],false)
  (St.le_trans (nilOwn (row:=[.own 102100 w.convs.length,.nils,.nils,.nils]) 1007 200001 181 8 41 2 (by simp only[go_sem]) (by decide) (by simp only[go_sem]) rfl) (St.le_trans (nilOwn (row:=[.own 102100 w.convs.length,.nils,.own 200001 0,.nils]) 1007 200003 70 7 41 3 (by simp only[go_sem]) (by decide) (by simp only[go_sem,List.set_cons_succ,List.set_cons_zero]) rfl) (St.le_trans (nilOwn (row:=[.nilp,.nils]) 1009 200009 5 1 50 1 (by simp only[go_sem]) (by decide) (by simp only[go_sem,List.set_cons_succ,List.set_cons_zero]) rfl) (leN [] (by simp only[go_sem]) (by simp only[go_sem,hz,hn0,Door.zero,List.set_cons_succ,List.set_cons_zero,cond_false,byV,List.map_nil]) (by simp[getN]) (by simp only[go_sem]))))) ⟨Nat.le_refl _,hsi,hcon,by simp,by simp⟩ ?_
 intro⟨rest,v,out,u⟩ ⟨g1,g2,g3,g4,g5⟩
 simp only at g1 g2 g3 g4 g5
 have fc:=c24 rest 10 (by omega)
 by_cases h10:(10:UInt8)∈rest
 ·obtain⟨l,r,hr,hcb,hca⟩:=cutB_yes h10
  rw[hcb] at fc
  rw[hca] at g5
  have hrl:rest.length=l.length+(r.length+1):=by rw[hr];simp
  have hd:(l::cutAll 10 r).dropLast=l::(cutAll 10 r).dropLast:=by
   cases hq:cutAll 10 r with
   | nil=>exact absurd hq (cutAll_ne 10 r)
   | cons a b=>rfl
  rw[hd] at g5
  have hll:=lineDo_len g2.wi l
  have hsi2:=lineDo_si calm_step g2 l
  have hex:=(lineDo_ext v l).len
  have hj:linesDo v (l::(cutAll 10 r).dropLast)=((linesDo (lineDo v l).1 (cutAll 10 r).dropLast).1,(lineDo v l).2++(linesDo (lineDo v l).1 (cutAll 10 r).dropLast).2):=rfl
  rw[hj] at g5
  cases u
  ·simp only[go_sem,cond_false]
   with_reducible repeat' (first|refine br ?_ ?_<;>intro h e<;>(try simp only[e,go_sem])<;>clear e|rw[i64w (by omega)]|refine sd ?_<;>try simp only[go_sem]|(first|refine cr (fc ..) ?_)<;>try simp only[go_sem]|fail)
   refine callN (c26 v l g2.wi (by omega)) [1007,200001,102100,200003] [] true 40 4 (by simp only[go_sem];first|done|simp) (by simp only[go_sem];first|done|simp) (by simp) (by simp) (by simp) ?_ ?_ ?_
   ·rintro _ _ ⟨rfl,v',hv',rfl⟩
    exact⟨by simp,by simp,.inl rfl,fun i hi=>by obtain rfl:i=0:=(by omega);simp[chH,stepOk]⟩
   ·intro i hi
    rcases(show i=0∨i=1∨i=2∨i=3 by omega) with rfl|rfl|rfl|rfl<;>simp only[go_sem]
   rintro _ _ ⟨rfl,v',hv',rfl⟩
   simp only[go_sem]
   rw[←hv'] at hsi2 hex g5
   generalize (lineDo v l).2=s at *
   with_reducible repeat' (first|refine br ?_ ?_<;>intro h e<;>(try simp only[e,go_sem])<;>clear e|rw[i64w (by omega)]|refine sd ?_<;>try simp only[go_sem]|fail)
   refine callN (o25 false (out) (s) (by omega)) [1009,200009] [] true 41 2 (by simp only[go_sem,bldH,adr,cond_true,cond_false];first|done|(simp;done)|(simp;omega)) (by simp only[go_sem,bldH,adr,cond_true,cond_false];first|done|(simp;done)|(simp;omega)) (by simp) (by simp) (by simp) ?_ ?_ ?_
   ·rintro _ _ ⟨rfl,rfl⟩
    exact⟨by simp[bldH],by simp[bldH],.inl rfl,fun i hi=>by obtain rfl:i=0:=(by omega);simp[chH,stepOk,bldH]⟩
   ·intro i hi;rcases(show i=0∨i=1 by omega) with rfl|rfl<;>simp only[go_sem]
   rintro _ _ ⟨rfl,rfl⟩
   simp only[go_sem,bldH,adr,cond_true]
   with_reducible repeat' (first|refine br ?_ ?_<;>intro h e<;>(try simp only[e,go_sem])<;>clear e|rw[i64w (by omega)]|refine sd ?_<;>try simp only[go_sem]|fail)
   exact⟨(r,v',out++s,true),by simp only;omega,⟨by simp only;omega,hsi2,by simp only;omega,by simp only[List.length_append];omega,by simp only;rw[g5,List.append_assoc]⟩,leN [(102100,104002),(200001,104001),(200003,104003),(200009,104101)] (by simp only[go_sem];first|done|omega|rfl) (by simp only[go_sem,cond_true];first|done|omega|rfl) (by simp[getN]) (by simp only[go_sem])⟩
  ·simp only[go_sem,cond_true]
   with_reducible repeat' (first|refine br ?_ ?_<;>intro h e<;>(try simp only[e,go_sem])<;>clear e|rw[i64w (by omega)]|refine sd ?_<;>try simp only[go_sem]|(first|refine cr (fc ..) ?_)<;>try simp only[go_sem]|fail)
   refine callN (c26 v l g2.wi (by omega)) [1007,200001,102100,200003] [] true 40 4 (by simp only[go_sem];first|done|simp) (by simp only[go_sem];first|done|simp) (by simp) (by simp) (by simp) ?_ ?_ ?_
   ·rintro _ _ ⟨rfl,v',hv',rfl⟩
    exact⟨by simp,by simp,.inl rfl,fun i hi=>by obtain rfl:i=0:=(by omega);simp[chH,stepOk]⟩
   ·intro i hi
    rcases(show i=0∨i=1∨i=2∨i=3 by omega) with rfl|rfl|rfl|rfl<;>simp only[go_sem]
   rintro _ _ ⟨rfl,v',hv',rfl⟩
   simp only[go_sem]
   rw[←hv'] at hsi2 hex g5
   generalize (lineDo v l).2=s at *
   with_reducible repeat' (first|refine br ?_ ?_<;>intro h e<;>(try simp only[e,go_sem])<;>clear e|rw[i64w (by omega)]|refine sd ?_<;>try simp only[go_sem]|fail)
   refine callN (o25 true (out) (s) (by omega)) [1009,200009] [] true 41 2 (by simp only[go_sem,bldH,adr,cond_true,cond_false];first|done|(simp;done)|(simp;omega)) (by simp only[go_sem,bldH,adr,cond_true,cond_false];first|done|(simp;done)|(simp;omega)) (by simp) (by simp) (by simp) ?_ ?_ ?_
   ·rintro _ _ ⟨rfl,rfl⟩
    exact⟨by simp[bldH],by simp[bldH],.inl rfl,fun i hi=>by obtain rfl:i=0:=(by omega);simp[chH,stepOk,bldH]⟩
   ·intro i hi;rcases(show i=0∨i=1 by omega) with rfl|rfl<;>simp only[go_sem]
   rintro _ _ ⟨rfl,rfl⟩
   simp only[go_sem,bldH,adr,cond_true]
   with_reducible repeat' (first|refine br ?_ ?_<;>intro h e<;>(try simp only[e,go_sem])<;>clear e|rw[i64w (by omega)]|refine sd ?_<;>try simp only[go_sem]|fail)
   exact⟨(r,v',out++s,true),by simp only;omega,⟨by simp only;omega,hsi2,by simp only;omega,by simp only[List.length_append];omega,by simp only;rw[g5,List.append_assoc]⟩,leN [(102100,104002),(200001,104001),(200003,104003),(200009,104101)] (by simp only[go_sem];first|done|omega|rfl) (by simp only[go_sem,cond_true];first|done|omega|rfl) (by simp[getN]) (by simp only[go_sem])⟩
 ·have hcb:=cutB_no h10
  rw[hcb] at fc
  rw[cutAll_one h10] at g5
  rw[show([rest]:List B).dropLast=[] from rfl,show linesDo v []=(v,[]) from rfl,List.append_nil] at g5
  rw[g5]
  obtain⟨c,hc,hok⟩:=line_conv g2 g3
  obtain⟨b1,b2,b3,b4⟩:=endB hok
  have fa:=c27 c.upAck b1
  have fb:=c27 c.downAck b2
  have l1:=dec_le2 c.upAck
  have l2:=dec_le2 c.downAck
  have el:linesEnd v=(117::112::32::(dec c.upAck++[32]++c.upGot++[10]))++(100::111::119::110::32::(dec c.downAck++[32]++c.downGot++[10])):=by
   simp only[linesEnd,hc]
   simp
  simp only
  rw[el]
  clear el
  generalize dec c.upAck=x at *
  generalize dec c.downAck=y at *
  have hs1:(117::112::32::(x++[32]++c.upGot++[10])).length≤1000:=by simp;omega
  have hs2:(100::111::119::110::32::(y++[32]++c.downGot++[10])).length≤1000:=by simp;omega
  have hne:out++(117::112::32::(x++[32]++c.upGot++[10]))++(100::111::119::110::32::(y++[32]++c.downGot++[10]))≠[]:=by simp
  have hlt:(out++(117::112::32::(x++[32]++c.upGot++[10]))).length≤1900000:=by rw[List.length_append];omega
  cases u
  ·simp only[go_sem,cond_false,hc,iadG_e,List.length_cons,List.length_nil]
   with_reducible repeat' (first|refine br ?_ ?_<;>intro h e<;>(try simp only[e,go_sem,hc,List.length_append,List.length_cons,List.length_nil,Nat.zero_add,Int.natCast_add,Int.natCast_one])<;>clear e|rw[i64w (by omega)]|refine sd ?_<;>try simp only[go_sem,hc,List.length_append,List.length_cons,List.length_nil,Nat.zero_add,Int.natCast_add,Int.natCast_one]|(first|refine cr (fc ..) ?_|refine cr (fa ..) ?_)<;>try simp only[go_sem,hc,List.length_append,List.length_cons,List.length_nil,Nat.zero_add,Int.natCast_add,Int.natCast_one]|fail)
   refine callN (o25 false (out) (117::112::32::(x++[32]++c.upGot++[10])) (by omega)) [1009,200009] [] true 56 2 (by simp only[go_sem,bldH,adr,cond_true,cond_false];first|done|(simp;done)|(simp;omega)) (by simp only[go_sem,bldH,adr,cond_true,cond_false];first|done|(simp;done)|(simp;omega)) (by simp) (by simp) (by simp) ?_ ?_ ?_
   ·rintro _ _ ⟨rfl,rfl⟩
    exact⟨by simp[bldH],by simp[bldH],.inl rfl,fun i hi=>by obtain rfl:i=0:=(by omega);simp[chH,stepOk,bldH]⟩
   ·intro i hi;rcases(show i=0∨i=1 by omega) with rfl|rfl<;>simp only[go_sem]
   rintro _ _ ⟨rfl,rfl⟩
   simp only[go_sem,bldH,adr,cond_true]
   with_reducible repeat' (first|refine br ?_ ?_<;>intro h e<;>(try simp only[e,go_sem,List.length_append,List.length_cons,List.length_nil,Nat.zero_add,Int.natCast_add,Int.natCast_one])<;>clear e|rw[i64w (by omega)]|refine sd ?_<;>try simp only[go_sem,List.length_append,List.length_cons,List.length_nil,Nat.zero_add,Int.natCast_add,Int.natCast_one]|(first|refine cr (fb ..) ?_)<;>try simp only[go_sem,List.length_append,List.length_cons,List.length_nil,Nat.zero_add,Int.natCast_add,Int.natCast_one]|fail)
   refine callN (o25 true (out++(117::112::32::(x++[32]++c.upGot++[10]))) (100::111::119::110::32::(y++[32]++c.downGot++[10])) (by omega)) [1009,105601] [] true 66 2 (by simp only[go_sem,bldH,adr,cond_true,cond_false];first|done|(simp;done)|(simp;omega)) (by simp only[go_sem,bldH,adr,cond_true,cond_false];first|done|(simp;done)|(simp;omega)) (by simp) (by simp) (by simp) ?_ ?_ ?_
   ·rintro _ _ ⟨rfl,rfl⟩
    exact⟨by simp[bldH],by simp[bldH],.inl rfl,fun i hi=>by obtain rfl:i=0:=(by omega);simp[chH,stepOk,bldH]⟩
   ·intro i hi;rcases(show i=0∨i=1 by omega) with rfl|rfl<;>simp only[go_sem]
   rintro _ _ ⟨rfl,rfl⟩
   simp only[go_sem,bldH,adr,cond_true]
   with_reducible repeat' (first|refine br ?_ ?_<;>intro h e<;>(try simp only[e,go_sem])<;>clear e|rw[i64w (by omega)]|refine sd ?_<;>try simp only[go_sem]|fail)
   refine callU (o28 (out++(117::112::32::(x++[32]++c.upGot++[10]))++(100::111::119::110::32::(y++[32]++c.downGot++[10]))) hne (by rw[List.length_append];omega)) [1009,106601] [] 67 0 (by simp only[go_sem,bldH,adr,cond_true,cond_false];first|done|(simp;done)|(simp;omega)) (by simp only[go_sem,bldH,adr,cond_true,cond_false];first|done|(simp;done)|(simp;omega)) (by simp) (by simp) (by rintro _ _ ⟨rfl,rfl⟩;simp) (by intro i hi;omega) ?_
   rintro _ _ ⟨rfl,rfl⟩
   simp only[go_sem]
   with_reducible repeat' (first|refine br ?_ ?_<;>intro h e<;>(try simp only[e,go_sem])<;>clear e|rw[i64w (by omega)]|refine sd ?_<;>try simp only[go_sem]|fail)
   all_goals first|done|(simp;done)|trace_state
  ·simp only[go_sem,cond_true,hc,iadG_e,List.length_cons,List.length_nil]
   with_reducible repeat' (first|refine br ?_ ?_<;>intro h e<;>(try simp only[e,go_sem,hc,List.length_append,List.length_cons,List.length_nil,Nat.zero_add,Int.natCast_add,Int.natCast_one])<;>clear e|rw[i64w (by omega)]|refine sd ?_<;>try simp only[go_sem,hc,List.length_append,List.length_cons,List.length_nil,Nat.zero_add,Int.natCast_add,Int.natCast_one]|(first|refine cr (fc ..) ?_|refine cr (fa ..) ?_)<;>try simp only[go_sem,hc,List.length_append,List.length_cons,List.length_nil,Nat.zero_add,Int.natCast_add,Int.natCast_one]|fail)
   refine callN (o25 true (out) (117::112::32::(x++[32]++c.upGot++[10])) (by omega)) [1009,200009] [] true 56 2 (by simp only[go_sem,bldH,adr,cond_true,cond_false];first|done|(simp;done)|(simp;omega)) (by simp only[go_sem,bldH,adr,cond_true,cond_false];first|done|(simp;done)|(simp;omega)) (by simp) (by simp) (by simp) ?_ ?_ ?_
   ·rintro _ _ ⟨rfl,rfl⟩
    exact⟨by simp[bldH],by simp[bldH],.inl rfl,fun i hi=>by obtain rfl:i=0:=(by omega);simp[chH,stepOk,bldH]⟩
   ·intro i hi;rcases(show i=0∨i=1 by omega) with rfl|rfl<;>simp only[go_sem]
   rintro _ _ ⟨rfl,rfl⟩
   simp only[go_sem,bldH,adr,cond_true]
   with_reducible repeat' (first|refine br ?_ ?_<;>intro h e<;>(try simp only[e,go_sem,List.length_append,List.length_cons,List.length_nil,Nat.zero_add,Int.natCast_add,Int.natCast_one])<;>clear e|rw[i64w (by omega)]|refine sd ?_<;>try simp only[go_sem,List.length_append,List.length_cons,List.length_nil,Nat.zero_add,Int.natCast_add,Int.natCast_one]|(first|refine cr (fb ..) ?_)<;>try simp only[go_sem,List.length_append,List.length_cons,List.length_nil,Nat.zero_add,Int.natCast_add,Int.natCast_one]|fail)
   refine callN (o25 true (out++(117::112::32::(x++[32]++c.upGot++[10]))) (100::111::119::110::32::(y++[32]++c.downGot++[10])) (by omega)) [1009,105601] [] true 66 2 (by simp only[go_sem,bldH,adr,cond_true,cond_false];first|done|(simp;done)|(simp;omega)) (by simp only[go_sem,bldH,adr,cond_true,cond_false];first|done|(simp;done)|(simp;omega)) (by simp) (by simp) (by simp) ?_ ?_ ?_
   ·rintro _ _ ⟨rfl,rfl⟩
    exact⟨by simp[bldH],by simp[bldH],.inl rfl,fun i hi=>by obtain rfl:i=0:=(by omega);simp[chH,stepOk,bldH]⟩
   ·intro i hi;rcases(show i=0∨i=1 by omega) with rfl|rfl<;>simp only[go_sem]
   rintro _ _ ⟨rfl,rfl⟩
   simp only[go_sem,bldH,adr,cond_true]
   with_reducible repeat' (first|refine br ?_ ?_<;>intro h e<;>(try simp only[e,go_sem])<;>clear e|rw[i64w (by omega)]|refine sd ?_<;>try simp only[go_sem]|fail)
   refine callU (o28 (out++(117::112::32::(x++[32]++c.upGot++[10]))++(100::111::119::110::32::(y++[32]++c.downGot++[10]))) hne (by rw[List.length_append];omega)) [1009,106601] [] 67 0 (by simp only[go_sem,bldH,adr,cond_true,cond_false];first|done|(simp;done)|(simp;omega)) (by simp only[go_sem,bldH,adr,cond_true,cond_false];first|done|(simp;done)|(simp;omega)) (by simp) (by simp) (by rintro _ _ ⟨rfl,rfl⟩;simp) (by intro i hi;omega) ?_
   rintro _ _ ⟨rfl,rfl⟩
   simp only[go_sem]
   with_reducible repeat' (first|refine br ?_ ?_<;>intro h e<;>(try simp only[e,go_sem])<;>clear e|rw[i64w (by omega)]|refine sd ?_<;>try simp only[go_sem]|fail)
   all_goals first|done|(simp;done)|trace_state
end Go.Proofs.YtiegngjdjheebaaGreatDoor.W
