/- Part 5 of the proof: the walk over values, the plain model, contracts of the functions of the program. -/
import Derived.Test.YtiegngjdjheebaaGreatDoorX04
import Derived.Test.YtiegngjdjheebaaGreatDoorX02
import Derived.Test.YtiegngjdjheebaaGreatDoorX03
import Derived.OwnWalk
import Derived.WalkKit
import Derived.Deep.LoopGhost
import Derived.Deep.RegionLaw
import Derived.Lib.Walk
import Derived.Lib.SliceRun
import Derived.Sort.WalkB12
set_option linter.all false
namespace Go.Proofs.YtiegngjdjheebaaGreatDoor.W
open Go Go.RowKit Go.Proofs Go.Proofs.YtiegngjdjheebaaGreatDoor.VL Go.Proofs.YtiegngjdjheebaaGreatDoor.M
attribute [local congr] optK_congr guardK_congr condK_congr runT_congr runD_congr wpI_congr CallV_congr LoopI_congr pureK_congr effK_congr calK_congr stepV_congr doV_congr exN_congr exB_congr retF_congr retQ_congr gK_congr condW_congr ldK_congr stoK_congr
attribute [local go_sem] argL_cons argL_nil argH_nil argH_cons chH_getH wpI_seq wpI_reg wpI_drw wpI_ret cond_k condW_t condW_f wpI_skip wpI_block wpI_exit wpI_loop exN_n exN_r exN_e exB_n exB_r exB_h exB_m runT_k kT_e runT_nil runD_k kD_e runD_nil step_u step_k gK_t gK_f do_mv do_bino bo_add bo_sub bo_mul bo_subu bo_quo bo_rem bo_xor bo_eql bo_neq bo_lss bo_leq bo_gtr bo_geq bo_cat bo_eqs bo_nes do_pick do_call do_cal calK_f do_box do_alloc do_ldk ldK_s do_stok stoK_s do_fad do_nilc do_not do_neg do_len do_lens do_ext do_eqs do_beq do_isn do_cvi do_sls do_idx do_mn do_mx do_build do_mkf do_s2b do_b2s do_slv do_iad do_bsl do_mks do_app do_aps apsG_s ev_t ev_c app_some app_none
attribute [local go_sem] List.nil_append List.cons_append List.append_nil getL_hit getL_miss getH_nil getH_hit getH_miss nm_eq ne_eq Nat.reduceEqDiff not_false_eq_true Nat.reduceAdd Nat.add_zero Nat.zero_add if_true if_false ite_true ite_false pureK_s effK_s optK_s gdV_t gdV_f gdV_s pick_b ge_iff_le gt_iff_lt cond_true cond_false fresh_k cells_agg cells_int cells_bool cells_str cells_own cells_sl cells_nils ld_pv ld_pa ld_ip ldVar_t ldVar_f ldArr_t ldArr_f ldRow_t ldRow_f ldA_s ld1_s fad_pv fad_pa fad_ip nilc_pv nilc_pa nilc_ip not_b neg_i cvi_i ext_t retF_n retF_r
attribute [local go_sem] resV_k rvs_nil rvs_t rvs_c fstO_s consO_s resK_s resL_1 resL_2 resL_3 resL_4  Option.some.injEq List.map_cons List.map_nil List.all_cons List.all_nil Bool.and_true Bool.and_self Bool.not_true Bool.not_false Option.map_some Option.map_none sls_s slsG_s loV_n loV_i hiV_n hiV_i idx_s mn_i mx_i s2b_s b2s_s bytO_s bytes_nil bytes_cons conB_s slv_sl slv_own slv_nils slvG_s slvN_s slvO_s iad_sl iadG_map take_map drop_map List.length_map iad_own iad_view iadO_a iadW_a mks_i rowO_nils rowO_sl rowO_own rowA_a eq_self appG_nils appG_own appO_a guardP_T mapA_s bld_nil mkf_nil bldF_e fill_nil fill_cons mkf_e lens_s len_nils len_sl len_own len_view isn_nile isn_erre List.getElem?_cons_zero List.getElem?_cons_succ List.length_cons List.length_nil decide_true decide_false Int.toNat_natCast Int.cast_ofNat_Int Int.reduceLT Int.reduceLE Int.reduceEq Int.reduceAdd Int.reduceSub Int.reduceMul Int.reduceNeg Int.reduceToNat List.getD_cons_zero List.getD_cons_succ not_true_eq_false not_false_eq_true Bool.false_eq_true Bool.true_eq_false reduceCtorEq
attribute [local go_sem] E.row Pc.row Pair.row Part.row Strm.row Flw.row Pk.row Door.row Conv.row World.row Ev.row rdV E.eta Pc.eta Pair.eta Part.eta Strm.eta Pk.eta Flw.eta Conv.eta Door.eta World.eta Ev.eta
attribute [local go_sem] sub_ok st_pv st_pa stVar_v stArr_a Nat.le_refl List.drop_zero List.drop_succ_cons List.take_succ_cons List.take_zero setR Nat.reduceLeDiff
attribute [local go_sem] wk_bot wk2_bot wk1_bot wk_undef wk_tup_e wk2_agg_e wk_agg_e wk1_fn_e wk2_fn_e wk_fn_e wkl_nil wkl_cons wkh_var_e wkh_arr_e wkh_fresh_e wkh_dead_v wkh_dead_a wkh_dead_d wk0_undef wk0_int wk0_bool wk0_str wk0_nils wk0_nils_sl wk0_nilp wk0_nile wk0_erre wk0_sl wk0_iptr wk0_own wk0_view wk0_pv wk0_pa fzA_a fzW_a fzP_v wk0_own_sl wk0_view_sl wk0_pv_iptr WkS_nil WkS_cons WkN_nil WkN_cons nonB_nil nonB_cons getN_nil getN_hit getN_miss pinOk_0 pinOk_s and_true true_and and_self
attribute [local go_sem] bot_int one_int unt_int clo_int bot_bool one_bool unt_bool clo_bool bot_str one_str unt_str clo_str bot_nils one_nils unt_nils clo_nils bot_nilp one_nilp unt_nilp clo_nilp bot_nile one_nile unt_nile clo_nile bot_erre one_erre unt_erre clo_erre bot_raw one_raw unt_raw clo_raw bot_sl one_sl unt_sl clo_sl bot_own one_own unt_own clo_own bot_view one_view unt_view clo_view bot_pv one_pv unt_pv clo_pv bot_pa one_pa unt_pa clo_pa bot_iptr one_iptr unt_iptr clo_iptr unt_agg unt_fn one_fn
attribute [local go_sem] rn_tup rn_agg rn2_agg rn_fn rn2_fn rnfn1 rn_bot rn2_bot rn1_bot rn0_int rn0_bool rn0_str rn0_nils rn0_nilp rn0_nile rn0_erre rn0_sl rn0_iptr rn0_own rn0_view rn0_pv rn0_pa hrn_var hrn_arr hrn_dead outU_nil outU_cons deads_nil deads_cons bk_ge bk_lt nsF_0 nsF_s chH_0 chH_s chH_n newN_e andB_s eqR_nil eqR_i eqR_b eqR_s mapX_f mapX_t eqs_a beq_f beq_t live_arr live_var nsl_nil nsl_cons Nat.reduceMul Nat.reduceLT Nat.zero_le Nat.not_lt_zero
attribute [local go_sem] mV lD lA fD bN eX oP nP sR i0 s0
def ic156:IC:=sR [oP 3 (.box 70 (.t 1)),oP 4 (.alloc 70 [i0,i0,i0,i0,i0,i0,s0]),oP 5 (.mv (.c (.bool false)))] (.seq (.drw [0,1,3,7,0,16,48,127,255,511,511,0,3071,8191] [(0,mV 10 0),(1,oP 11 (.nilc (.t 10))),(2,fD 12 0 11),(3,lD 13 1 12),(4,fD 14 3 3),(5,fD 15 1 14),(6,lD 16 1 15),(7,oP 17 (.call 184 [.t 13,.t 16])),(8,mV 9 17),(9,eX 18 9 0),(10,eX 19 9 1),(11,oP 6 (.alloc 45 [i0,i0])),(12,nP (.sto 2 (.t 6) (.t 18))),(13,mV 7 19)]) (.seq (.drw [0,1,3,0,0,16,63,127] [(0,mV 20 0),(1,oP 21 (.nilc (.t 20))),(2,lA 22 2 21),(3,lA 23 2 6),(4,fD 24 1 3),(5,lA 25 2 24),(6,oP 26 (.call 180 [.t 22,.t 23,.t 25])),(7,mV 8 26)]) (.seq (sR [mV 27 7,oP 28 (.un .not (.t 27)),mV 29 28,⟨some 30,some (29,false),.mv (.t 8)⟩,⟨some 31,some (29,false),.bin .lss (.t 30) (.c i0)⟩,oP 32 (.pick (.t 29) (.c (.bool true)) (.t 31))] (.cond (.t 32) (sR [oP 33 (.build [i0,i0,i0,i0,i0,i0,s0] []),nP (.sto 7 (.t 4) (.t 33)),oP 5 (.mv (.c (.bool false)))] .ret) .skip)) (sR [lA 34 2 6,fD 35 3 3,nP (.sto 2 (.t 35) (.t 34))] (.seq (sR [fD 36 0 3,lD 37 1 36,oP 38 (.bin .eql (.t 37) (.c (.int .i64 2)))] (.cond (.t 38) (.seq (.drw [0,1,3,7,0,31,63,127,0,511,1023,1023,4095,8191] [(0,mV 39 0),(1,oP 40 (.nilc (.t 39))),(2,fD 41 1 40),(3,lD 42 1 41),(4,mV 43 8),(5,oP 44 (.iad 8 (.t 42) (.t 43))),(6,fD 45 4 44),(7,lA 46 2 45),(8,lA 47 7 3),(9,oP 48 (.call 182 [.t 46,.t 47])),(10,eX 49 48 0),(11,eX 50 48 1),(12,nP (.sto 7 (.t 4) (.t 49))),(13,mV 5 50)]) .ret) .skip)) (.seq (.drw [0,0,2,6,14,0,62,126,0,511,1023,1023,4095,8191] [(0,mV 51 0),(1,mV 52 0),(2,oP 53 (.nilc (.t 52))),(3,fD 54 1 53),(4,lD 55 1 54),(5,mV 56 8),(6,oP 57 (.iad 8 (.t 55) (.t 56))),(7,fD 58 6 57),(8,lA 59 7 3),(9,oP 60 (.call 183 [.t 51,.t 58,.t 59,.c (.bool false)])),(10,eX 61 60 0),(11,eX 62 60 1),(12,nP (.sto 7 (.t 4) (.t 61))),(13,mV 5 62)]) .ret))))))
theorem dg156:Dg Tryz.prog 156 Tryz.f156 ic156 [(.cell 4 7 true),(.t 5)]:=⟨Tryz.func156,by kernel_rfl,by kernel_rfl⟩
theorem openF_full {d:Door} {i o:E} (h:flowIx d.flows i o=none) (h3:¬d.flows.length<4):openR d i o=(d,0,false):=by
 rcases hm:mOut d.map i with⟨m,n,ok⟩
 cases ok<;>simp[openR,openF,h,hm,h3]
theorem getD_last (l:List (List V)) (r:List V) {n:Nat} (h:n=l.length) (x:List V):(l++[r]).getD n x=r:=by
 subst h;simp[List.getD]
theorem rowsNew (fs:List Flw) (i o:E):RowsW (fs.map Flw.row++[[.int .i64 i.a,.int .i64 i.p,.int .i64 o.a,.int .i64 o.p,.str [],.nils,.str [],.nils]]) ((fs++[Flw.mk i o .zero .zero]).map Flw.row):=by
 rw[List.map_append]
 exact RowsW.app (RowsW.refl _) (RowsW.one (.same _ (.same _ (.same _ (.same _ (.same _ (.nils 2 (.same _ (.nils 2 .nil)))))))))
def ic155:IC:=sR [oP 3 (.box 70 (.t 1)),oP 4 (.alloc 70 [i0,i0,i0,i0,i0,i0,s0]),oP 5 (.mv (.c (.bool false)))] (.seq (.drw [0,1,3,0,8,0,32,127,255] [(0,mV 10 0),(1,oP 11 (.nilc (.t 10))),(2,lA 12 2 11),(3,fD 13 1 3),(4,lA 14 2 13),(5,fD 15 3 3),(6,lA 16 2 15),(7,oP 17 (.call 180 [.t 12,.t 14,.t 16])),(8,mV 6 17)]) (.seq (sR [mV 18 6,oP 19 (.bin .lss (.t 18) (.c i0))] (.cond (.t 19) (.seq (.drw [0,1,3,7,0,16,63,127,255,255,255,511,3071,8191] [(0,mV 21 0),(1,oP 22 (.nilc (.t 21))),(2,fD 23 0 22),(3,lD 24 1 23),(4,fD 25 1 3),(5,lA 26 2 25),(6,oP 27 (.call 181 [.t 24,.t 26])),(7,mV 20 27),(8,eX 28 20 0),(9,eX 29 20 1),(10,eX 30 20 2),(11,mV 7 28),(12,mV 8 29),(13,mV 9 30)]) (.seq (sR [mV 31 9,oP 32 (.un .not (.t 31)),mV 33 32,⟨some 34,some (33,false),.mv (.t 0)⟩,⟨some 35,some (33,false),.nilc (.t 34)⟩,⟨some 36,some (33,false),.fad 1 (.t 35)⟩,⟨some 37,some (33,false),.ld 1 false (.t 36)⟩,⟨some 38,some (33,false),.len (.t 37)⟩,⟨some 39,some (33,false),.bin .geq (.t 38) (.c (.int .i64 4))⟩,oP 40 (.pick (.t 33) (.c (.bool true)) (.t 39))] (.cond (.t 40) (sR [oP 41 (.build [i0,i0,i0,i0,i0,i0,s0] []),nP (.sto 7 (.t 4) (.t 41)),oP 5 (.mv (.c (.bool false)))] .ret) .skip)) (sR [mV 42 0,oP 43 (.nilc (.t 42)),fD 44 1 43,lD 45 1 44,oP 46 (.len (.t 45)),mV 6 46] (sR [mV 47 0,mV 48 7,oP 49 (.nilc (.t 47)),fD 50 0 49,nP (.sto 1 (.t 50) (.t 48))] (.drw [0,0,2,6,14,0,32,0,128,480,992,2046,4095,8191,16383] [(0,mV 51 0),(1,mV 52 0),(2,oP 53 (.nilc (.t 52))),(3,fD 54 1 53),(4,lD 55 1 54),(5,fD 56 1 3),(6,lA 57 2 56),(7,fD 58 3 3),(8,lA 59 2 58),(9,oP 60 (.build [i0,i0,i0,i0,s0,.nils,s0,.nils] [(0,(2,.t 57)),(2,(2,.t 59))])),(10,oP 61 (.bsl 181 8 [.t 60])),(11,oP 62 (.app 181 8 (.t 55) (.t 61))),(12,oP 63 (.nilc (.t 51))),(13,fD 64 1 63),(14,nP (.sto 1 (.t 64) (.t 62)))]))))) .skip)) (.seq (.drw [0,1,3,7,0,16,63,127,255,511] [(0,mV 65 0),(1,oP 66 (.nilc (.t 65))),(2,fD 67 0 66),(3,lD 68 1 67),(4,fD 69 1 3),(5,lA 70 2 69),(6,oP 71 (.call 125 [.t 68,.t 70])),(7,oP 72 (.build [i0,i0] [(0,(1,.c (.int .i64 9))),(1,(1,.t 71))])),(8,fD 73 1 3),(9,nP (.sto 2 (.t 73) (.t 72)))]) (.seq (sR [fD 74 0 3,lD 75 1 74,oP 76 (.bin .eql (.t 75) (.c (.int .i64 2)))] (.cond (.t 76) (.seq (.drw [0,1,3,7,0,31,63,127,0,511,1023,1023,4095,8191] [(0,mV 77 0),(1,oP 78 (.nilc (.t 77))),(2,fD 79 1 78),(3,lD 80 1 79),(4,mV 81 6),(5,oP 82 (.iad 8 (.t 80) (.t 81))),(6,fD 83 6 82),(7,lA 84 2 83),(8,lA 85 7 3),(9,oP 86 (.call 182 [.t 84,.t 85])),(10,eX 87 86 0),(11,eX 88 86 1),(12,nP (.sto 7 (.t 4) (.t 87))),(13,mV 5 88)]) .ret) .skip)) (.seq (.drw [0,0,2,6,14,0,62,126,0,511,1023,1023,4095,8191] [(0,mV 89 0),(1,mV 90 0),(2,oP 91 (.nilc (.t 90))),(3,fD 92 1 91),(4,lD 93 1 92),(5,mV 94 6),(6,oP 95 (.iad 8 (.t 93) (.t 94))),(7,fD 96 4 95),(8,lA 97 7 3),(9,oP 98 (.call 183 [.t 89,.t 96,.t 97,.c (.bool true)])),(10,eX 99 98 0),(11,eX 100 98 1),(12,nP (.sto 7 (.t 4) (.t 99))),(13,mV 5 100)]) .ret)))))
theorem dg155:Dg Tryz.prog 155 Tryz.f155 ic155 [(.cell 4 7 true),(.t 5)]:=⟨Tryz.func155,by kernel_rfl,by kernel_rfl⟩
theorem copyC {d:Door} (hd:doorOk d=true):∀f∈d.flows,f.up.parts.length≤2000000∧f.down.parts.length≤2000000:=fun f hf=>by
 obtain⟨k,hk⟩:=List.mem_iff_getElem?.1 hf
 obtain⟨_,_,h1,h2,_⟩:=flow_at hd hk
 have:=(strmOk_B h1).2.1
 have:=(strmOk_B h2).2.1
 omega
def ic126:IC:=sR [oP 3 (.box 70 (.t 1)),oP 4 (.alloc 70 [i0,i0,i0,i0,i0,i0,s0]),oP 5 (.mv (.c (.bool false)))] (.seq (.block 0 (sR [lA 7 7 3,oP 8 (.call 154 [.t 7]),mV 6 8] (.cond (.t 6) (sR [mV 9 0,lA 10 7 3,oP 11 (.call 155 [.t 9,.t 10]),eX 12 11 0,eX 13 11 1,nP (.sto 7 (.t 4) (.t 12)),mV 5 13] .ret) (sR [lA 15 7 3,oP 16 (.call 84 [.t 15]),mV 14 16] (.cond (.t 14) (sR [mV 17 0,lA 18 7 3,oP 19 (.call 156 [.t 17,.t 18]),eX 20 19 0,eX 21 19 1,nP (.sto 7 (.t 4) (.t 20)),mV 5 21] .ret) .skip))))) (sR [oP 22 (.build [i0,i0,i0,i0,i0,i0,s0] []),nP (.sto 7 (.t 4) (.t 22)),oP 5 (.mv (.c (.bool false)))] .ret))
theorem dg126:Dg Tryz.prog 126 Tryz.f126 ic126 [(.cell 4 7 true),(.t 5)]:=⟨Tryz.func126,by kernel_rfl,by kernel_rfl⟩
def goesW_up (u:M.World) (m:List Pair) (fs:List Flw) (k:Nat) (p:Pk) (out:Bool) (r:V) (o:List Hs):Prop :=
 ((put m (fs.getD k default).up p.at_ p.text out).2.2=false∧r=.tup [.agg (Pk.row .zero),.bool false]∧o=[.var 41 [.own 2 u.convs.length,.sl 3 (m.map Pair.row),.own 1 fs.length,.own 3 u.nets.length],.arr 181 8 (fs.map Flw.row),.arr 47 10 (u.convs.map Conv.row),.arr 70 7 (u.nets.map Pk.row)]) ∨
 ((put m (fs.getD k default).up p.at_ p.text out).2.2=true∧r=.tup [.agg (Pk.row (goesR (fs.getD k default).up (put m (fs.getD k default).up p.at_ p.text out).2.1 p).1),.bool (goesR (fs.getD k default).up (put m (fs.getD k default).up p.at_ p.text out).2.1 p).2] ∧
   o=[.var 41 [.own 2 u.convs.length,.sl 3 ((put m (fs.getD k default).up p.at_ p.text out).1.map Pair.row),.own 1 fs.length,.own 3 u.nets.length],.arr 181 8 ((fs.set k { fs.getD k default with up:=(put m (fs.getD k default).up p.at_ p.text out).2.1 }).map Flw.row),.arr 47 10 (u.convs.map Conv.row),.arr 70 7 (u.nets.map Pk.row)])
theorem goesW_no_up {u:M.World} {m:List Pair} {fs:List Flw} {k:Nat} {p:Pk} {out:Bool} {f:Flw} {m':List Pair} {s':Strm} (hf:fs.getD k default=f) (hP:put m f.up p.at_ p.text out=(m',s',false)) :
 goesW_up u m fs k p out (.tup [.agg (Pk.row .zero),.bool false]) [.var 41 [.own 2 u.convs.length,.sl 3 (m.map Pair.row),.own 1 fs.length,.own 3 u.nets.length],.arr 181 8 (fs.map Flw.row),.arr 47 10 (u.convs.map Conv.row),.arr 70 7 (u.nets.map Pk.row)]:=by
 unfold goesW_up
 rw[hf,hP]
 exact Or.inl ⟨rfl,rfl,rfl⟩
theorem goesW_yes_up {u:M.World} {m:List Pair} {fs:List Flw} {k:Nat} {p:Pk} {out:Bool} {f:Flw} {m':List Pair} {s':Strm} (hf:fs.getD k default=f) (hP:put m f.up p.at_ p.text out=(m',s',true)) :
 goesW_up u m fs k p out (.tup [.agg (Pk.row (goesR f.up s' p).1),.bool (goesR f.up s' p).2]) [.var 41 [.own 2 u.convs.length,.sl 3 (m'.map Pair.row),.own 1 fs.length,.own 3 u.nets.length],.arr 181 8 ((fs.set k { f with up:=s' }).map Flw.row),.arr 47 10 (u.convs.map Conv.row),.arr 70 7 (u.nets.map Pk.row)]:=by
 unfold goesW_up
 rw[hf,hP]
 exact Or.inr ⟨rfl,rfl,rfl⟩
theorem w183up (u:M.World) (m:List Pair) (fs:List Flw) (k:Nat) (p:Pk) (out:Bool) (hm:mapOk m=true) (hk:k<fs.length) (hs:strmOk (fs.getD k default).up=true) (hp:PkP p) (htx:txOk p.text=true) :
 FnP Tryz.prog G 183 4 [.var 41 [.own 2 u.convs.length,.sl 3 (m.map Pair.row),.own 1 fs.length,.own 3 u.nets.length],.arr 181 8 (fs.map Flw.row),.arr 47 10 (u.convs.map Conv.row),.arr 70 7 (u.nets.map Pk.row)] [.pv 0 1,.pa 1 k 4,.agg [.int .i64 p.kind,.int .i64 p.frm.a,.int .i64 p.frm.p,.int .i64 p.to.a,.int .i64 p.to.p,.int .i64 p.at_,.str p.text],.bool out] (goesW_up u m fs k p out):=by
 refine mP dg183 Tryz.ntmps183 ?_ ?_
 ·cases hb:(put m (fs.getD k default).up p.at_ p.text out).2.2
  ·exact⟨_,_,.inl ⟨hb,rfl,rfl⟩⟩
  ·exact⟨_,_,.inr ⟨hb,rfl,rfl⟩⟩
 have hpa:=hp.at_
 have hpl:=hp.len
 have hpk:=put_ok (m:=m) (s:=(fs.getD k default).up) (n:=p.at_) (t:=p.text) (out:=out) hm hs htx hpa.1
 have sb:=strmOk_B hs
 obtain⟨s1,s2,s3⟩:=sb
 have f0:=c203 m (fs.getD k default).up p.at_ p.text out ⟨hm,hs,hpa,hpl⟩
 have gs:∀R,((fs.map Flw.row).set k R).getD k []=R:=fun R=>by simp[List.getD,hk]
 generalize hf:fs.getD k default=f at *
 simp only[ic183,go_sem,getD_mp hk,hf]
 with_reducible repeat' (first|refine br ?_ ?_<;>intro h e<;>(try simp only[e,go_sem,getD_mp hk,hf])<;>clear e|rw[i64w (by omega)]|refine sd ?_<;>try simp only[go_sem,getD_mp hk,hf]|fail)
 refine callR f0 rfl rfl ?_
 have hml:=(mapOk_ports hpk.1).2
 have sb:=strmOk_B hpk.2
 have so:=sOut_len sb
 have gr:∀a b,forP (put m f.up p.at_ p.text out).2.1.parts p.at_=a→toR f.up (put m f.up p.at_ p.text out).2.1 p=b→goesR f.up (put m f.up p.at_ p.text out).2.1 p=({ p with at_:=a,text:=((sOut (put m f.up p.at_ p.text out).2.1).take (max b a).toNat).drop a.toNat },within (((sOut (put m f.up p.at_ p.text out).2.1).take (max b a).toNat).drop a.toNat).length 1 40):=fun a b ha hb=>by subst ha;subst hb;rfl
 have hto:toR f.up (put m f.up p.at_ p.text out).2.1 p=if f.up.inn.length<(put m f.up p.at_ p.text out).2.1.inn.length then((sOut (put m f.up p.at_ p.text out).2.1).length:Int) else forP (put m f.up p.at_ p.text out).2.1.parts (min (p.at_+p.text.length) (put m f.up p.at_ p.text out).2.1.inn.length):=rfl
 have fo1:0≤forP (put m f.up p.at_ p.text out).2.1.parts p.at_∧forP (put m f.up p.at_ p.text out).2.1.parts p.at_≤(sOut (put m f.up p.at_ p.text out).2.1).length:=forP_le _
 have fo2:0≤forP (put m f.up p.at_ p.text out).2.1.parts (min (p.at_+p.text.length) f.up.inn.length)∧forP (put m f.up p.at_ p.text out).2.1.parts (min (p.at_+p.text.length) f.up.inn.length)≤(sOut (put m f.up p.at_ p.text out).2.1).length:=forP_le _
 have hinn:f.up.inn.length≤(put m f.up p.at_ p.text out).2.1.inn.length:=put_inn ..
 generalize hP:put m f.up p.at_ p.text out=P at *
 obtain⟨m',s',ok⟩:=P
 simp only at hpk hml sb so gr hto fo1 fo2 hinn
 cases ok<;>simp only[go_sem]
 ·with_reducible repeat' (first|refine br ?_ ?_<;>intro h e<;>(try simp only[e,go_sem])<;>clear e|rw[i64w (by omega)]|refine sd ?_<;>try simp only[go_sem]|fail)
  refine retN (.tup [.agg (Pk.row .zero),.bool false]) [.var 41 [.own 2 u.convs.length,.sl 3 (m.map Pair.row),.own 1 fs.length,.own 3 u.nets.length],.arr 181 8 (fs.map Flw.row),.arr 47 10 (u.convs.map Conv.row),.arr 70 7 (u.nets.map Pk.row)] [] ?_ (goesW_no_up hf hP) ?_ (by simp[argH,getN]) (by simp only[go_sem])
  ·simp only[go_sem,Pk.zero,E.zero]
  ·simp only[go_sem]
 have f1:=r199 (m'.map Pair.row) (by simp;omega)
 have f2:=c201 s' sb
 have f3:=c204 s' p.at_ sb (by omega)
 have f4:=c204 s' (min (p.at_+p.text.length) f.up.inn.length) sb (by omega)
 generalize hA:forP s'.parts p.at_=A at *
 generalize hB:forP s'.parts (min (p.at_+p.text.length) f.up.inn.length)=Bb at *
 with_reducible repeat' (first|refine br ?_ ?_<;>intro h e<;>(try simp only[e,go_sem,getD_mp hk,hf,gs])<;>clear e|rw[i64w (by omega)]|refine sd ?_<;>try simp only[go_sem,getD_mp hk,hf,gs]|(first|refine cr (f1 ..) ?_|refine cr (f2 ..) ?_|refine cr (f3 ..) ?_|refine cr (f4 ..) ?_|refine cr (c76 ..) ?_)<;>try simp only[go_sem,getD_mp hk,hf,gs]|fail)
 ·have hto':toR f.up s' p=Bb:=by rw[hto,if_neg (by omega),←hB];congr 2
  have g:=gr A _ rfl hto'
  refine retN (.tup [.agg (Pk.row (goesR f.up s' p).1),.bool (goesR f.up s' p).2]) [.var 41 [.own 2 u.convs.length,.sl 3 (m'.map Pair.row),.own 1 fs.length,.own 3 u.nets.length],.arr 181 8 ((fs.set k { f with up:=s' }).map Flw.row),.arr 47 10 (u.convs.map Conv.row),.arr 70 7 (u.nets.map Pk.row)] [] ?_ (goesW_yes_up hf hP) ?_ (by simp[argH,getN]) (by simp only[go_sem])
  ·simp only[g,go_sem]
  ·simp only[go_sem,List.map_set]
 ·have hto':toR f.up s' p=((sOut s').length:Int):=by rw[hto,if_pos (by omega)]
  have g:=gr A _ rfl hto'
  refine retN (.tup [.agg (Pk.row (goesR f.up s' p).1),.bool (goesR f.up s' p).2]) [.var 41 [.own 2 u.convs.length,.sl 3 (m'.map Pair.row),.own 1 fs.length,.own 3 u.nets.length],.arr 181 8 ((fs.set k { f with up:=s' }).map Flw.row),.arr 47 10 (u.convs.map Conv.row),.arr 70 7 (u.nets.map Pk.row)] [] ?_ (goesW_yes_up hf hP) ?_ (by simp[argH,getN]) (by simp only[go_sem])
  ·simp only[g,go_sem]
  ·simp only[go_sem,List.map_set]
def goesW_down (u:M.World) (m:List Pair) (fs:List Flw) (k:Nat) (p:Pk) (out:Bool) (r:V) (o:List Hs):Prop :=
 ((put m (fs.getD k default).down p.at_ p.text out).2.2=false∧r=.tup [.agg (Pk.row .zero),.bool false]∧o=[.var 41 [.own 2 u.convs.length,.sl 3 (m.map Pair.row),.own 1 fs.length,.own 3 u.nets.length],.arr 181 8 (fs.map Flw.row),.arr 47 10 (u.convs.map Conv.row),.arr 70 7 (u.nets.map Pk.row)]) ∨
 ((put m (fs.getD k default).down p.at_ p.text out).2.2=true∧r=.tup [.agg (Pk.row (goesR (fs.getD k default).down (put m (fs.getD k default).down p.at_ p.text out).2.1 p).1),.bool (goesR (fs.getD k default).down (put m (fs.getD k default).down p.at_ p.text out).2.1 p).2] ∧
   o=[.var 41 [.own 2 u.convs.length,.sl 3 ((put m (fs.getD k default).down p.at_ p.text out).1.map Pair.row),.own 1 fs.length,.own 3 u.nets.length],.arr 181 8 ((fs.set k { fs.getD k default with down:=(put m (fs.getD k default).down p.at_ p.text out).2.1 }).map Flw.row),.arr 47 10 (u.convs.map Conv.row),.arr 70 7 (u.nets.map Pk.row)])
theorem goesW_no_down {u:M.World} {m:List Pair} {fs:List Flw} {k:Nat} {p:Pk} {out:Bool} {f:Flw} {m':List Pair} {s':Strm} (hf:fs.getD k default=f) (hP:put m f.down p.at_ p.text out=(m',s',false)) :
 goesW_down u m fs k p out (.tup [.agg (Pk.row .zero),.bool false]) [.var 41 [.own 2 u.convs.length,.sl 3 (m.map Pair.row),.own 1 fs.length,.own 3 u.nets.length],.arr 181 8 (fs.map Flw.row),.arr 47 10 (u.convs.map Conv.row),.arr 70 7 (u.nets.map Pk.row)]:=by
 unfold goesW_down
 rw[hf,hP]
 exact Or.inl ⟨rfl,rfl,rfl⟩
theorem goesW_yes_down {u:M.World} {m:List Pair} {fs:List Flw} {k:Nat} {p:Pk} {out:Bool} {f:Flw} {m':List Pair} {s':Strm} (hf:fs.getD k default=f) (hP:put m f.down p.at_ p.text out=(m',s',true)) :
 goesW_down u m fs k p out (.tup [.agg (Pk.row (goesR f.down s' p).1),.bool (goesR f.down s' p).2]) [.var 41 [.own 2 u.convs.length,.sl 3 (m'.map Pair.row),.own 1 fs.length,.own 3 u.nets.length],.arr 181 8 ((fs.set k { f with down:=s' }).map Flw.row),.arr 47 10 (u.convs.map Conv.row),.arr 70 7 (u.nets.map Pk.row)]:=by
 unfold goesW_down
 rw[hf,hP]
 exact Or.inr ⟨rfl,rfl,rfl⟩
theorem w183down (u:M.World) (m:List Pair) (fs:List Flw) (k:Nat) (p:Pk) (out:Bool) (hm:mapOk m=true) (hk:k<fs.length) (hs:strmOk (fs.getD k default).down=true) (hp:PkP p) (htx:txOk p.text=true) :
 FnP Tryz.prog G 183 4 [.var 41 [.own 2 u.convs.length,.sl 3 (m.map Pair.row),.own 1 fs.length,.own 3 u.nets.length],.arr 181 8 (fs.map Flw.row),.arr 47 10 (u.convs.map Conv.row),.arr 70 7 (u.nets.map Pk.row)] [.pv 0 1,.pa 1 k 6,.agg [.int .i64 p.kind,.int .i64 p.frm.a,.int .i64 p.frm.p,.int .i64 p.to.a,.int .i64 p.to.p,.int .i64 p.at_,.str p.text],.bool out] (goesW_down u m fs k p out):=by
 refine mP dg183 Tryz.ntmps183 ?_ ?_
 ·cases hb:(put m (fs.getD k default).down p.at_ p.text out).2.2
  ·exact⟨_,_,.inl ⟨hb,rfl,rfl⟩⟩
  ·exact⟨_,_,.inr ⟨hb,rfl,rfl⟩⟩
 have hpa:=hp.at_
 have hpl:=hp.len
 have hpk:=put_ok (m:=m) (s:=(fs.getD k default).down) (n:=p.at_) (t:=p.text) (out:=out) hm hs htx hpa.1
 have sb:=strmOk_B hs
 obtain⟨s1,s2,s3⟩:=sb
 have f0:=c203 m (fs.getD k default).down p.at_ p.text out ⟨hm,hs,hpa,hpl⟩
 have gs:∀R,((fs.map Flw.row).set k R).getD k []=R:=fun R=>by simp[List.getD,hk]
 generalize hf:fs.getD k default=f at *
 simp only[ic183,go_sem,getD_mp hk,hf]
 with_reducible repeat' (first|refine br ?_ ?_<;>intro h e<;>(try simp only[e,go_sem,getD_mp hk,hf])<;>clear e|rw[i64w (by omega)]|refine sd ?_<;>try simp only[go_sem,getD_mp hk,hf]|fail)
 refine callR f0 rfl rfl ?_
 have hml:=(mapOk_ports hpk.1).2
 have sb:=strmOk_B hpk.2
 have so:=sOut_len sb
 have gr:∀a b,forP (put m f.down p.at_ p.text out).2.1.parts p.at_=a→toR f.down (put m f.down p.at_ p.text out).2.1 p=b→goesR f.down (put m f.down p.at_ p.text out).2.1 p=({ p with at_:=a,text:=((sOut (put m f.down p.at_ p.text out).2.1).take (max b a).toNat).drop a.toNat },within (((sOut (put m f.down p.at_ p.text out).2.1).take (max b a).toNat).drop a.toNat).length 1 40):=fun a b ha hb=>by subst ha;subst hb;rfl
 have hto:toR f.down (put m f.down p.at_ p.text out).2.1 p=if f.down.inn.length<(put m f.down p.at_ p.text out).2.1.inn.length then((sOut (put m f.down p.at_ p.text out).2.1).length:Int) else forP (put m f.down p.at_ p.text out).2.1.parts (min (p.at_+p.text.length) (put m f.down p.at_ p.text out).2.1.inn.length):=rfl
 have fo1:0≤forP (put m f.down p.at_ p.text out).2.1.parts p.at_∧forP (put m f.down p.at_ p.text out).2.1.parts p.at_≤(sOut (put m f.down p.at_ p.text out).2.1).length:=forP_le _
 have fo2:0≤forP (put m f.down p.at_ p.text out).2.1.parts (min (p.at_+p.text.length) f.down.inn.length)∧forP (put m f.down p.at_ p.text out).2.1.parts (min (p.at_+p.text.length) f.down.inn.length)≤(sOut (put m f.down p.at_ p.text out).2.1).length:=forP_le _
 have hinn:f.down.inn.length≤(put m f.down p.at_ p.text out).2.1.inn.length:=put_inn ..
 generalize hP:put m f.down p.at_ p.text out=P at *
 obtain⟨m',s',ok⟩:=P
 simp only at hpk hml sb so gr hto fo1 fo2 hinn
 cases ok<;>simp only[go_sem]
 ·with_reducible repeat' (first|refine br ?_ ?_<;>intro h e<;>(try simp only[e,go_sem])<;>clear e|rw[i64w (by omega)]|refine sd ?_<;>try simp only[go_sem]|fail)
  refine retN (.tup [.agg (Pk.row .zero),.bool false]) [.var 41 [.own 2 u.convs.length,.sl 3 (m.map Pair.row),.own 1 fs.length,.own 3 u.nets.length],.arr 181 8 (fs.map Flw.row),.arr 47 10 (u.convs.map Conv.row),.arr 70 7 (u.nets.map Pk.row)] [] ?_ (goesW_no_down hf hP) ?_ (by simp[argH,getN]) (by simp only[go_sem])
  ·simp only[go_sem,Pk.zero,E.zero]
  ·simp only[go_sem]
 have f1:=r199 (m'.map Pair.row) (by simp;omega)
 have f2:=c201 s' sb
 have f3:=c204 s' p.at_ sb (by omega)
 have f4:=c204 s' (min (p.at_+p.text.length) f.down.inn.length) sb (by omega)
 generalize hA:forP s'.parts p.at_=A at *
 generalize hB:forP s'.parts (min (p.at_+p.text.length) f.down.inn.length)=Bb at *
 with_reducible repeat' (first|refine br ?_ ?_<;>intro h e<;>(try simp only[e,go_sem,getD_mp hk,hf,gs])<;>clear e|rw[i64w (by omega)]|refine sd ?_<;>try simp only[go_sem,getD_mp hk,hf,gs]|(first|refine cr (f1 ..) ?_|refine cr (f2 ..) ?_|refine cr (f3 ..) ?_|refine cr (f4 ..) ?_|refine cr (c76 ..) ?_)<;>try simp only[go_sem,getD_mp hk,hf,gs]|fail)
 ·have hto':toR f.down s' p=Bb:=by rw[hto,if_neg (by omega),←hB];congr 2
  have g:=gr A _ rfl hto'
  refine retN (.tup [.agg (Pk.row (goesR f.down s' p).1),.bool (goesR f.down s' p).2]) [.var 41 [.own 2 u.convs.length,.sl 3 (m'.map Pair.row),.own 1 fs.length,.own 3 u.nets.length],.arr 181 8 ((fs.set k { f with down:=s' }).map Flw.row),.arr 47 10 (u.convs.map Conv.row),.arr 70 7 (u.nets.map Pk.row)] [] ?_ (goesW_yes_down hf hP) ?_ (by simp[argH,getN]) (by simp only[go_sem])
  ·simp only[g,go_sem]
  ·simp only[go_sem,List.map_set]
 ·have hto':toR f.down s' p=((sOut s').length:Int):=by rw[hto,if_pos (by omega)]
  have g:=gr A _ rfl hto'
  refine retN (.tup [.agg (Pk.row (goesR f.down s' p).1),.bool (goesR f.down s' p).2]) [.var 41 [.own 2 u.convs.length,.sl 3 (m'.map Pair.row),.own 1 fs.length,.own 3 u.nets.length],.arr 181 8 ((fs.set k { f with down:=s' }).map Flw.row),.arr 47 10 (u.convs.map Conv.row),.arr 70 7 (u.nets.map Pk.row)] [] ?_ (goesW_yes_down hf hP) ?_ (by simp[argH,getN]) (by simp only[go_sem])
  ·simp only[g,go_sem]
  ·simp only[go_sem,List.map_set]
def outW (u:M.World) (x:Door×Option Pk) (r:V) (o:List Hs):Prop :=
 ∃q,r=.tup [.agg (Pk.row q),.bool x.2.isSome]∧(∀q',x.2=some q'→q=q')∧o=[.var 41 [.own 2 u.convs.length,.sl 3 (x.1.map.map Pair.row),.own 1 x.1.flows.length,.own 3 u.nets.length],.arr 181 8 (x.1.flows.map Flw.row),.arr 47 10 (u.convs.map Conv.row),.arr 70 7 (u.nets.map Pk.row)]
theorem outW_no {u:M.World} {d:Door}:outW u (d,none) (.tup [.agg (Pk.row .zero),.bool false]) [.var 41 [.own 2 u.convs.length,.sl 3 (d.map.map Pair.row),.own 1 d.flows.length,.own 3 u.nets.length],.arr 181 8 (d.flows.map Flw.row),.arr 47 10 (u.convs.map Conv.row),.arr 70 7 (u.nets.map Pk.row)]:=⟨.zero,rfl,fun q h=>(by simp at h),rfl⟩
theorem outW_if {u:M.World} (d:Door) (q:Pk) (ok:Bool):outW u (d,if ok=true then some q else none) (.tup [.agg (Pk.row q),.bool ok]) [.var 41 [.own 2 u.convs.length,.sl 3 (d.map.map Pair.row),.own 1 d.flows.length,.own 3 u.nets.length],.arr 181 8 (d.flows.map Flw.row),.arr 47 10 (u.convs.map Conv.row),.arr 70 7 (u.nets.map Pk.row)] :=
 ⟨q,by cases ok<;>rfl,fun q' h=>by cases ok<;>simp at h;exact h,rfl⟩
theorem w156 (u:M.World) (d:Door) (p:Pk) (hd:doorOk d=true) (hp:PkP p):FnP Tryz.prog G 156 1 [.var 41 [.own 2 u.convs.length,.sl 3 (d.map.map Pair.row),.own 1 d.flows.length,.own 3 u.nets.length],.arr 181 8 (d.flows.map Flw.row),.arr 47 10 (u.convs.map Conv.row),.arr 70 7 (u.nets.map Pk.row)]
 [.pv 0 1,.agg [.int .i64 p.kind,.int .i64 p.frm.a,.int .i64 p.frm.p,.int .i64 p.to.a,.int .i64 p.to.p,.int .i64 p.at_,.str p.text]] (outW u (dIn d p)):=by
 refine mP dg156 Tryz.ntmps156 ?_ ?_
 ·exact⟨_,_,(dIn d p).2.getD .zero,rfl,fun q' h=>by rw[h];rfl,rfl⟩
 obtain⟨hm,hfl,_⟩:=doorOk_iff.1 hd
 obtain⟨hmp,hml⟩:=mapOk_ports hm
 have no:∀l mm,dIn d p=(d,none)→getL l 4=.pv 1004 0→getL l 5=.bool false→getH mm 1004=.var 70 (Pk.row .zero)→getH mm 0=.var 41 [.own 2 u.convs.length,.sl 3 (d.map.map Pair.row),.own 1 d.flows.length,.own 3 u.nets.length]→getH mm 1=.arr 181 8 (d.flows.map Flw.row)→getH mm 2=.arr 47 10 (u.convs.map Conv.row)→getH mm 3=.arr 70 7 (u.nets.map Pk.row) →
  retQ [.cell 4 7 true,.t 5] 1 (outW u (dIn d p)) .ret ⟨getL l,getH mm⟩:=fun l mm hx h1 h2 h3 h4 h5 h6 h7=>by
  rw[hx]
  refine retN _ _ [] ?_ outW_no ?_ (by simp[argH,getN]) (by simp only[go_sem])
  ·simp only[go_sem,h1,h2,h3]
  ·simp only[go_sem,h4,h5,h6,h7]
 simp only[ic156,go_sem]
 have f0:=c184 d.map p.to.p (by omega)
 with_reducible repeat' (first|refine br ?_ ?_<;>intro h e<;>(try simp only[e,go_sem])<;>clear e|rw[i64w (by omega)]|refine sd ?_<;>try simp only[go_sem]|(first|refine cr (f0 ..) ?_)<;>try simp only[go_sem]|fail)
 cases hin:insideOf d.map p.to.p with
 | none =>
   simp only[go_sem,Option.isSome_none,Option.getD_none,E.zero]
   with_reducible repeat' (first|refine br ?_ ?_<;>intro h e<;>(try simp only[e,go_sem])<;>clear e|rw[i64w (by omega)]|refine sd ?_<;>try simp only[go_sem]|fail)
   refine callF (c180 (d.map.map Pair.row) d.flows ⟨0,0⟩ p.frm (by omega)) [1] false (by simp only[go_sem];first|done|simp[E.row,Pc.row,Pair.row,Part.row,Flw.row,Pk.row,Conv.row]) (by simp only[List.mem_singleton];rintro c rfl;rfl) rfl (.inr rfl) ?_
   simp only[go_sem]
   with_reducible repeat' (first|refine br ?_ ?_<;>intro h e<;>(try simp only[e,go_sem])<;>clear e|rw[i64w (by omega)]|refine sd ?_<;>try simp only[go_sem]|fail)
   exact no _ _ (dIn_no1 hin) (by simp only[go_sem]) (by simp only[go_sem]) (by simp only[go_sem,Pk.zero,E.zero]) (by simp only[go_sem]) (by simp only[go_sem]) (by simp only[go_sem]) (by simp only[go_sem])
 | some i =>
   simp only[go_sem,Option.isSome_some,Option.getD_some]
   with_reducible repeat' (first|refine br ?_ ?_<;>intro h e<;>(try simp only[e,go_sem])<;>clear e|rw[i64w (by omega)]|refine sd ?_<;>try simp only[go_sem]|fail)
   refine callF (c180 (d.map.map Pair.row) d.flows i p.frm (by omega)) [1] false (by simp only[go_sem];first|done|simp[E.row,Pc.row,Pair.row,Part.row,Flw.row,Pk.row,Conv.row]) (by simp only[List.mem_singleton];rintro c rfl;rfl) rfl (.inr rfl) ?_
   simp only[go_sem]
   cases hf:flowIx d.flows i p.frm with
   | none =>
     simp only[ixI,go_sem]
     with_reducible repeat' (first|refine br ?_ ?_<;>intro h e<;>(try simp only[e,go_sem])<;>clear e|rw[i64w (by omega)]|refine sd ?_<;>try simp only[go_sem]|fail)
     exact no _ _ (dIn_no2 hin hf) (by simp only[go_sem]) (by simp only[go_sem]) (by simp only[go_sem,Pk.zero,E.zero]) (by simp only[go_sem]) (by simp only[go_sem]) (by simp only[go_sem]) (by simp only[go_sem])
   | some k =>
     obtain⟨hk,hke⟩:=dIn_yes hin hf
     rw[hke]
     have hg:d.flows.getD k default=Flw.at d k:=rfl
     have hfk:d.flows[k]?=some (Flw.at d k):=by simp[Flw.at,List.getD,hk]
     obtain⟨_,_,x6,x7,_⟩:=flow_at hd hfk
     have s1:=strmOk_B x6
     have hpa:=hp.at_
     have hpl:=hp.len
     have f1:=c182 (Flw.at d k).up { p with to:=i } s1 (by simp only;omega)
     have hlt:¬((k:Int)<0):=by omega
     simp only[ixI,go_sem,eq_false hlt]
     with_reducible repeat' (first|refine br ?_ ?_<;>intro h e<;>(try simp only[e,go_sem,getD_mp hk,hg])<;>clear e|rw[i64w (by omega)]|refine sd ?_<;>try simp only[go_sem,getD_mp hk,hg]|(first|refine cr (f1 ..) ?_)<;>try simp only[go_sem,getD_mp hk,hg]|fail)
     ·have hx:∀b,(acksR (Flw.at d k).up { p with to:=i }).2=b→inK d k i p=(d,if b then some (acksR (Flw.at d k).up { p with to:=i }).1 else none):=fun b hb=>by
       subst hb
       have hk2:p.kind=2:=by assumption
       simp only[inK,acksR]
       rw[if_pos hk2]
       by_cases hc:p.at_>((sOut (Flw.at d k).up).length:Int)
       ·rw[if_pos hc,if_pos hc];rfl
       ·rw[if_neg hc,if_neg hc,hp.ack hk2,hk2];rfl
      generalize hA:acksR (Flw.at d k).up { p with to:=i }=A at *
      obtain⟨q,ok⟩:=A
      have hx:=hx _ rfl
      simp only at hx
      rw[hx]
      refine retN (.tup [.agg (Pk.row q),.bool ok]) [.var 41 [.own 2 u.convs.length,.sl 3 (d.map.map Pair.row),.own 1 d.flows.length,.own 3 u.nets.length],.arr 181 8 (d.flows.map Flw.row),.arr 47 10 (u.convs.map Conv.row),.arr 70 7 (u.nets.map Pk.row)] [] ?_ ⟨q,by cases ok<;>rfl,fun q' h=>by cases ok<;>simp at h;exact h,rfl⟩ ?_ (by simp[argH,getN]) (by simp only[go_sem])
      ·simp only[go_sem]
      ·simp only[go_sem]
     have hk2:¬p.kind=2:=by assumption
     have htx:=hp.tx.resolve_left hk2
     refine callN (w183down u d.map d.flows k { p with to:=i } false hm hk x7 ⟨hp.at_,hp.len,hp.tx,hp.ack,hp.kd⟩ htx) [0,1,2,3] [] true 60 4 (by simp only[go_sem];first|done|simp) (by simp only[go_sem];first|done|simp) (by simp) (by simp) (by simp) ?_ ?_ ?_
     ·rintro res out (⟨_,rfl,rfl⟩|⟨_,rfl,rfl⟩)
      ·exact⟨by simp,by simp,.inl rfl,fun i hi=>by rcases(show i=0∨i=1∨i=2∨i=3 by omega) with rfl|rfl|rfl|rfl<;>simp[chH,stepOk]⟩
      ·exact⟨by simp,by simp,.inl rfl,fun i hi=>by rcases(show i=0∨i=1∨i=2∨i=3 by omega) with rfl|rfl|rfl|rfl<;>simp[chH,stepOk]⟩
     ·intro i hi
      rcases(show i=0∨i=1∨i=2∨i=3 by omega) with rfl|rfl|rfl|rfl<;>simp only[go_sem]
     have hko:inK d k i p=if(put d.map (Flw.at d k).down p.at_ p.text false).2.2=false then(d,none)
      else(⟨d.map,d.flows.set k { Flw.at d k with down:=(put d.map (Flw.at d k).down p.at_ p.text false).2.1 }⟩,
       sendOn (Flw.at d k).down (put d.map (Flw.at d k).down p.at_ p.text false).2.1 { p with to:=i }):=by
      simp only[inK];rw[if_neg hk2,sendOn_to _ _ p i]
     have hpm:=put_mapF d.map (Flw.at d k).down p.at_ p.text
     rintro res out (⟨h,rfl,rfl⟩|⟨h,rfl,rfl⟩)
     all_goals
      simp only[hg] at h ⊢
      generalize hP:put d.map (Flw.at d k).down p.at_ p.text false=P at *
      obtain⟨m',s',ok'⟩:=P
      simp only at h hko hpm
      subst h
      subst hpm
      simp only[go_sem]
     ·rw[if_pos rfl] at hko
      rw[hko]
      with_reducible repeat' (first|refine br ?_ ?_<;>intro h e<;>(try simp only[e,go_sem])<;>clear e|rw[i64w (by omega)]|refine sd ?_<;>try simp only[go_sem]|fail)
      refine retN _ _ [] ?_ outW_no ?_ (by simp[argH,getN]) (by simp only[go_sem])
      ·simp only[go_sem]
      ·simp only[go_sem]
     ·rw[if_neg (by simp),goesR_on] at hko
      rw[hko]
      with_reducible repeat' (first|refine br ?_ ?_<;>intro h e<;>(try simp only[e,go_sem])<;>clear e|rw[i64w (by omega)]|refine sd ?_<;>try simp only[go_sem]|fail)
      refine retN _ _ [] ?_ (outW_if ⟨d.map,d.flows.set k { Flw.at d k with down:=s' }⟩ _ _) ?_ (by simp[argH,getN]) (by simp only[go_sem])
      ·simp only[go_sem]
      ·simp only[go_sem,List.map_set,List.length_set]
def outX (u:M.World) (x:Door×Option Pk) (r:V) (o:List Hs):Prop:=∃o',outW u x r o'∧∀c,HsW (chH o c) (chH o' c)
theorem outX_of {u:M.World} {x:Door×Option Pk} {r:V} {o:List Hs} (h:outW u x r o):outX u x r o:=⟨o,h,fun c=>HsW.refl _⟩
theorem hsNewW (u:M.World) (M:List Pair) (fs:List Flw) (i o:E):∀c,HsW (chH [.var 41 [.own 2 u.convs.length,.sl 3 (M.map Pair.row),.own 1 (fs++[Flw.mk i o .zero .zero]).length,.own 3 u.nets.length],.arr 181 8 (fs.map Flw.row++[[.int .i64 i.a,.int .i64 i.p,.int .i64 o.a,.int .i64 o.p,.str [],.nils,.str [],.nils]]),.arr 47 10 (u.convs.map Conv.row),.arr 70 7 (u.nets.map Pk.row)] c)
 (chH [.var 41 [.own 2 u.convs.length,.sl 3 (M.map Pair.row),.own 1 (fs++[Flw.mk i o .zero .zero]).length,.own 3 u.nets.length],.arr 181 8 ((fs++[Flw.mk i o .zero .zero]).map Flw.row),.arr 47 10 (u.convs.map Conv.row),.arr 70 7 (u.nets.map Pk.row)] c)
 | 0=>rfl
 | 1=>⟨rfl,rfl,rowsNew fs i o⟩
 | 2=>HsW.refl _
 | 3=>HsW.refl _
 | n+4=>rfl
theorem w155 (u:M.World) (d:Door) (p:Pk) (hd:doorOk d=true) (hp:PkP p) (hi:p.frm.inside=true) (ho:p.to.outside=true):FnP Tryz.prog G 155 1 [.var 41 [.own 2 u.convs.length,.sl 3 (d.map.map Pair.row),.own 1 d.flows.length,.own 3 u.nets.length],.arr 181 8 (d.flows.map Flw.row),.arr 47 10 (u.convs.map Conv.row),.arr 70 7 (u.nets.map Pk.row)]
 [.pv 0 1,.agg [.int .i64 p.kind,.int .i64 p.frm.a,.int .i64 p.frm.p,.int .i64 p.to.a,.int .i64 p.to.p,.int .i64 p.at_,.str p.text]] (outW u (dOut d p)):=by
 refine FnP.rowsOut (post:=outX u (dOut d p)) ?_ fun r o h=>h
 refine mP dg155 Tryz.ntmps155 ?_ ?_
 ·exact⟨_,_,outX_of ⟨(dOut d p).2.getD .zero,rfl,fun q' h=>by rw[h];rfl,rfl⟩⟩
 obtain⟨hm,hfl,_⟩:=doorOk_iff.1 hd
 obtain⟨hmp,hml⟩:=mapOk_ports hm
 have hyes:=fun ok=>openR_ok hd hi ho ok
 have hout:=fun ok=>dOut_yes (p:=p) ok (hyes ok).kl
 have hno:=fun ok=>dOut_no (d:=d) (p:=p) ok
 simp only[ic155,go_sem]
 with_reducible repeat' (first|refine br ?_ ?_<;>intro h e<;>(try simp only[e,go_sem])<;>clear e|rw[i64w (by omega)]|refine sd ?_<;>try simp only[go_sem]|fail)
 refine callF (c180 (d.map.map Pair.row) d.flows p.frm p.to (by omega)) [1] false (by simp only[go_sem];first|done|simp[E.row,Pc.row,Pair.row,Part.row,Flw.row,Pk.row,Conv.row]) (by simp only[List.mem_singleton];rintro c rfl;rfl) rfl (.inr rfl) ?_
 simp only[go_sem]
 cases hf:flowIx d.flows p.frm p.to with
 | some k =>
   have hop:=openF_has hf
   rw[hop] at hyes hout hno
   have hlt:¬((k:Int)<0):=by omega
   simp only[ixI,go_sem,eq_false hlt]
   obtain⟨x1,x2,x3,x4,x5,x6,x7,x8⟩:=hyes rfl
   have hout:=hout rfl
   simp only at x1 x2 x3 x4 x5 x6 x7 x8 hout
   rw[hout]
   have hg:d.flows.getD k default=Flw.at d k:=rfl
   rw[hg] at x6 x7
   have s2:=strmOk_B x7
   have hpa:=hp.at_
   have hpl:=hp.len
   have f0:=c125 d.map p.frm.a p.frm.p (by omega)
   have f1:=c182 (Flw.at d k).down { p with frm:=⟨9,portOf d.map p.frm⟩ } s2 (by simp only;omega)
   with_reducible repeat' (first|refine br ?_ ?_<;>intro h e<;>(try simp only[e,go_sem,getD_mp x4,hg])<;>clear e|rw[i64w (by omega)]|refine sd ?_<;>try simp only[go_sem,getD_mp x4,hg]|(first|refine cr (f0 ..) ?_|refine cr (f1 ..) ?_)<;>try simp only[go_sem,getD_mp x4,hg]|fail)
   ·have hx:∀b,(acksR (Flw.at d k).down { p with frm:=⟨9,portOf d.map p.frm⟩ }).2=b→outK d k p=(d,if b then some (acksR (Flw.at d k).down { p with frm:=⟨9,portOf d.map p.frm⟩ }).1 else none):=fun b hb=>by
     subst hb
     have hk2:p.kind=2:=by assumption
     simp only[outK,acksR]
     rw[if_pos hk2]
     by_cases hc:p.at_>((sOut (Flw.at d k).down).length:Int)
     ·rw[if_pos hc,if_pos hc];rfl
     ·rw[if_neg hc,if_neg hc,hp.ack hk2,hk2];rfl
    generalize hA:acksR (Flw.at d k).down { p with frm:=⟨9,portOf d.map p.frm⟩ }=A at *
    obtain⟨q,ok⟩:=A
    have hx:=hx _ rfl
    simp only at hx
    rw[hx]
    refine retN _ _ [] ?_ (outX_of (outW_if d q ok)) ?_ (by simp[argH,getN]) (by simp only[go_sem])
    ·simp only[go_sem]
    ·simp only[go_sem]
   have hk2:¬p.kind=2:=by assumption
   have htx:=hp.tx.resolve_left hk2
   refine callN (w183up u d.map d.flows k { p with frm:=⟨9,portOf d.map p.frm⟩ } true hm x4 x6 ⟨hp.at_,hp.len,hp.tx,hp.ack,hp.kd⟩ htx) [0,1,2,3] [] true 98 4 (by simp only[go_sem];first|done|simp) (by simp only[go_sem];first|done|simp) (by simp) (by simp) (by simp) ?_ ?_ ?_
   ·rintro res out (⟨_,rfl,rfl⟩|⟨_,rfl,rfl⟩)
    ·exact⟨by simp,by simp,.inl rfl,fun i hi=>by rcases(show i=0∨i=1∨i=2∨i=3 by omega) with rfl|rfl|rfl|rfl<;>simp[chH,stepOk]⟩
    ·exact⟨by simp,by simp,.inl rfl,fun i hi=>by rcases(show i=0∨i=1∨i=2∨i=3 by omega) with rfl|rfl|rfl|rfl<;>simp[chH,stepOk]⟩
   ·intro i hi
    rcases(show i=0∨i=1∨i=2∨i=3 by omega) with rfl|rfl|rfl|rfl<;>simp only[go_sem]
   have hko:outK d k p=if(put d.map (Flw.at d k).up p.at_ p.text true).2.2=false then(d,none)
    else(⟨(put d.map (Flw.at d k).up p.at_ p.text true).1,d.flows.set k { Flw.at d k with up:=(put d.map (Flw.at d k).up p.at_ p.text true).2.1 }⟩,
     sendOn (Flw.at d k).up (put d.map (Flw.at d k).up p.at_ p.text true).2.1 { p with frm:=⟨9,portOf d.map p.frm⟩ }):=by
    simp only[outK];rw[if_neg hk2,sendOn_frm _ _ p ⟨9,portOf d.map p.frm⟩]
   rintro res out (⟨h,rfl,rfl⟩|⟨h,rfl,rfl⟩)
   all_goals
    simp only[hg] at h ⊢
    generalize hP:put d.map (Flw.at d k).up p.at_ p.text true=P at *
    obtain⟨m',s',ok'⟩:=P
    simp only at h hko
    subst h
    simp only[go_sem]
   ·rw[if_pos rfl] at hko
    rw[hko]
    with_reducible repeat' (first|refine br ?_ ?_<;>intro h e<;>(try simp only[e,go_sem])<;>clear e|rw[i64w (by omega)]|refine sd ?_<;>try simp only[go_sem]|fail)
    refine retN _ _ [] ?_ (outX_of outW_no) ?_ (by simp[argH,getN]) (by simp only[go_sem])
    ·simp only[go_sem]
    ·simp only[go_sem]
   ·rw[if_neg (by simp),goesR_on] at hko
    rw[hko]
    with_reducible repeat' (first|refine br ?_ ?_<;>intro h e<;>(try simp only[e,go_sem])<;>clear e|rw[i64w (by omega)]|refine sd ?_<;>try simp only[go_sem]|fail)
    refine retN _ _ [] ?_ (outX_of (outW_if ⟨m',d.flows.set k { Flw.at d k with up:=s' }⟩ _ _)) ?_ (by simp[argH,getN]) (by simp only[go_sem])
    ·simp only[go_sem]
    ·simp only[go_sem,List.map_set,List.length_set]
 | none =>
   simp only[ixI,go_sem]
   with_reducible repeat' (first|refine br ?_ ?_<;>intro h e<;>(try simp only[e,go_sem])<;>clear e|rw[i64w (by omega)]|refine sd ?_<;>try simp only[go_sem]|fail)
   have f9:=c181 d.map p.frm.a p.frm.p hmp (by omega)
   have no:∀l mm,dOut d p=(d,none)→getL l 4=.pv 1004 0→getL l 5=.bool false→getH mm 1004=.var 70 (Pk.row .zero)→getH mm 0=.var 41 [.own 2 u.convs.length,.sl 3 (d.map.map Pair.row),.own 1 d.flows.length,.own 3 u.nets.length]→getH mm 1=.arr 181 8 (d.flows.map Flw.row)→getH mm 2=.arr 47 10 (u.convs.map Conv.row)→getH mm 3=.arr 70 7 (u.nets.map Pk.row) →
    retQ [.cell 4 7 true,.t 5] 1 (outX u (dOut d p)) .ret ⟨getL l,getH mm⟩:=fun l mm hx h1 h2 h3 h4 h5 h6 h7=>by
    rw[hx]
    refine retN _ _ [] ?_ (outX_of outW_no) ?_ (by simp[argH,getN]) (by simp only[go_sem])
    ·simp only[go_sem,h1,h2,h3]
    ·simp only[go_sem,h4,h5,h6,h7]
   refine callR f9 rfl rfl ?_
   simp only[go_sem]
   cases hok:(mOut d.map p.frm).2.2 with
   | false =>
     rw[openF_no hf hok] at hno
     simp only[go_sem]
     with_reducible repeat' (first|refine br ?_ ?_<;>intro h e<;>(try simp only[e,go_sem])<;>clear e|rw[i64w (by omega)]|refine sd ?_<;>try simp only[go_sem]|fail)
     exact no _ _ (hno rfl) (by simp only[go_sem]) (by simp only[go_sem]) (by simp only[go_sem,Pk.zero,E.zero]) (by simp only[go_sem]) (by simp only[go_sem]) (by simp only[go_sem]) (by simp only[go_sem])
   | true =>
     simp only[go_sem]
     with_reducible repeat' (first|refine br ?_ ?_<;>intro h e<;>(try simp only[e,go_sem])<;>clear e|rw[i64w (by omega)]|refine sd ?_<;>try simp only[go_sem]|fail)
     ·rw[openF_full hf (by omega)] at hno
      exact no _ _ (hno rfl) (by simp only[go_sem]) (by simp only[go_sem]) (by simp only[go_sem,Pk.zero,E.zero]) (by simp only[go_sem]) (by simp only[go_sem]) (by simp only[go_sem]) (by simp only[go_sem])
     rw[openF_new hf hok (by omega)] at hyes hout
     obtain⟨x1,x2,x3,x4,x5,x6,x7,x8⟩:=hyes rfl
     have hout:=hout rfl
     simp only at x1 x2 x3 x4 x5 x6 x7 x8 hout
     rw[hout]
     have hm2:=(mapOk_ports x1).2
     have hpa:=hp.at_
     have hpl:=hp.len
     have hg:Flw.at ⟨(mOut d.map p.frm).1,d.flows++[Flw.mk p.frm p.to .zero .zero]⟩ d.flows.length=Flw.mk p.frm p.to .zero .zero:=by simp[Flw.at,List.getD]
     have hx:∀R:List V,((d.flows.map Flw.row)++[R]).getD d.flows.length []=R:=fun R=>getD_last _ _ (by simp) _
     have f0:=c125 (mOut d.map p.frm).1 p.frm.a p.frm.p (by omega)
     generalize hM:(mOut d.map p.frm).1=M at *
     with_reducible repeat' (first|refine br ?_ ?_<;>intro h e<;>(try simp only[e,go_sem,hx])<;>clear e|rw[i64w (by omega)]|refine sd ?_<;>try simp only[go_sem,hx]|(first|refine cr (f0 ..) ?_)<;>try simp only[go_sem,hx]|fail)
     all_goals
      refine effG (by simp only[List.length_append,List.length_map,List.length_cons,List.length_nil];omega) ?_
      simp only[go_sem,hx]
      with_reducible repeat' (first|refine br ?_ ?_<;>intro h e<;>(try simp only[e,go_sem,hx])<;>clear e|rw[i64w (by omega)]|refine sd ?_<;>try simp only[go_sem,hx]|fail)
     ·have f1:=c182 .zero { p with frm:=⟨9,portOf M p.frm⟩ } (strmOk_B strmOk_zero) (by simp only;omega)
      refine callF f1 [] true (by simp only[go_sem,Strm.zero]) (by simp) rfl (.inl rfl) ?_
      simp only[go_sem]
      with_reducible repeat' (first|refine br ?_ ?_<;>intro h e<;>(try simp only[e,go_sem,hx])<;>clear e|rw[i64w (by omega)]|refine sd ?_<;>try simp only[go_sem,hx]|fail)
      have hx2:∀b,(acksR .zero { p with frm:=⟨9,portOf M p.frm⟩ }).2=b→outK ⟨M,d.flows++[Flw.mk p.frm p.to .zero .zero]⟩ d.flows.length p=(⟨M,d.flows++[Flw.mk p.frm p.to .zero .zero]⟩,if b then some (acksR .zero { p with frm:=⟨9,portOf M p.frm⟩ }).1 else none):=fun b hb=>by
       subst hb
       have hk2:p.kind=2:=by assumption
       simp only[outK,acksR,hg]
       rw[if_pos hk2]
       by_cases hc:p.at_>((sOut .zero).length:Int)
       ·rw[if_pos hc,if_pos hc];rfl
       ·rw[if_neg hc,if_neg hc,hp.ack hk2,hk2];rfl
      generalize hA:acksR .zero { p with frm:=⟨9,portOf M p.frm⟩ }=A at *
      obtain⟨q,ok⟩:=A
      have hx2:=hx2 _ rfl
      simp only at hx2
      rw[hx2]
      refine retN _ _ [(1,1062)] ?_ ⟨_,outW_if ⟨M,d.flows++[Flw.mk p.frm p.to .zero .zero]⟩ q ok,hsNewW u M d.flows p.frm p.to⟩ ?_ (by simp[argH,getN]) (by simp only[go_sem])
      ·simp only[go_sem]
      ·simp only[go_sem];simp
     have hk2:¬p.kind=2:=by assumption
     have htx:=hp.tx.resolve_left hk2
     refine callN (FnP.rowsIn (w183up u M (d.flows++[Flw.mk p.frm p.to .zero .zero]) d.flows.length { p with frm:=⟨9,portOf M p.frm⟩ } true x1 x4 x6 ⟨hp.at_,hp.len,hp.tx,hp.ack,hp.kd⟩ htx) (hsNewW u M d.flows p.frm p.to)) [0,1062,2,3] [] true 98 4 (by simp only[go_sem];first|done|simp) (by simp only[go_sem];first|done|simp) (by simp) (by simp) (by simp) ?_ ?_ ?_
     ·rintro res out (⟨_,rfl,rfl⟩|⟨_,rfl,rfl⟩)
      ·exact⟨by simp,by simp,.inl rfl,fun i hi=>by rcases(show i=0∨i=1∨i=2∨i=3 by omega) with rfl|rfl|rfl|rfl<;>simp[chH,stepOk]⟩
      ·exact⟨by simp,by simp,.inl rfl,fun i hi=>by rcases(show i=0∨i=1∨i=2∨i=3 by omega) with rfl|rfl|rfl|rfl<;>simp[chH,stepOk]⟩
     ·intro i hi
      rcases(show i=0∨i=1∨i=2∨i=3 by omega) with rfl|rfl|rfl|rfl<;>simp only[go_sem]
     have hgd:(d.flows++[Flw.mk p.frm p.to .zero .zero]).getD d.flows.length default=Flw.mk p.frm p.to .zero .zero:=hg
     have hko:outK ⟨M,d.flows++[Flw.mk p.frm p.to .zero .zero]⟩ d.flows.length p=if(put M .zero p.at_ p.text true).2.2=false then(⟨M,d.flows++[Flw.mk p.frm p.to .zero .zero]⟩,none)
      else(⟨(put M .zero p.at_ p.text true).1,(d.flows++[Flw.mk p.frm p.to .zero .zero]).set d.flows.length { Flw.mk p.frm p.to .zero .zero with up:=(put M .zero p.at_ p.text true).2.1 }⟩,
       sendOn .zero (put M .zero p.at_ p.text true).2.1 { p with frm:=⟨9,portOf M p.frm⟩ }):=by
      simp only[outK,hg];rw[if_neg hk2,sendOn_frm _ _ p ⟨9,portOf M p.frm⟩]
     rintro res out (⟨h,rfl,rfl⟩|⟨h,rfl,rfl⟩)
     all_goals
      simp only[hgd] at h ⊢
      generalize hP:put M .zero p.at_ p.text true=P at *
      obtain⟨m',s',ok'⟩:=P
      simp only at h hko
      subst h
      simp only[go_sem]
     ·rw[if_pos rfl] at hko
      rw[hko]
      with_reducible repeat' (first|refine br ?_ ?_<;>intro h e<;>(try simp only[e,go_sem])<;>clear e|rw[i64w (by omega)]|refine sd ?_<;>try simp only[go_sem]|fail)
      refine retN _ _ [(1,1062)] ?_ (outX_of outW_no) ?_ (by simp[argH,getN]) (by simp only[go_sem])
      ·simp only[go_sem]
      ·simp only[go_sem]
     ·rw[if_neg (by simp),goesR_on] at hko
      rw[hko]
      with_reducible repeat' (first|refine br ?_ ?_<;>intro h e<;>(try simp only[e,go_sem])<;>clear e|rw[i64w (by omega)]|refine sd ?_<;>try simp only[go_sem]|fail)
      refine retN _ _ [(1,1062)] ?_ (outX_of (outW_if ⟨m',(d.flows++[Flw.mk p.frm p.to .zero .zero]).set d.flows.length { Flw.mk p.frm p.to .zero .zero with up:=s' }⟩ _ _)) ?_ (by simp[argH,getN]) (by simp only[go_sem])
      ·simp only[go_sem]
      ·simp only[go_sem,List.map_set,List.length_set]
theorem w126 (u:M.World) (d:Door) (p:Pk) (hd:doorOk d=true) (hp:PkP p):FnP Tryz.prog G 126 1 [.var 41 [.own 2 u.convs.length,.sl 3 (d.map.map Pair.row),.own 1 d.flows.length,.own 3 u.nets.length],.arr 181 8 (d.flows.map Flw.row),.arr 47 10 (u.convs.map Conv.row),.arr 70 7 (u.nets.map Pk.row)]
 [.pv 0 1,.agg [.int .i64 p.kind,.int .i64 p.frm.a,.int .i64 p.frm.p,.int .i64 p.to.a,.int .i64 p.to.p,.int .i64 p.at_,.str p.text]] (outW u (dPass d p)):=by
 refine mP dg126 Tryz.ntmps126 ?_ ?_
 ·exact⟨_,_,(dPass d p).2.getD .zero,rfl,fun q' h=>by rw[h];rfl,rfl⟩
 have b1:=c154 p
 have b2:=c84 p
 simp only[ic126,go_sem]
 with_reducible repeat' (first|refine br ?_ ?_<;>intro h e<;>(try simp only[e,go_sem])<;>clear e|rw[i64w (by omega)]|refine sd ?_<;>try simp only[go_sem]|(first|refine cr (b1 ..) ?_|refine cr (b2 ..) ?_)<;>try simp only[go_sem]|fail)
 ·have hx:dPass d p=dOut d p:=by simp_all[dPass]
  rw[hx]
  have hio:p.frm.inside=true∧p.to.outside=true:=by simp_all[Pk.outward]
  refine callN (w155 u d p hd hp hio.1 hio.2) [0,1,2,3] [] true 11 4 (by simp only[go_sem];first|done|simp) (by simp only[go_sem];first|done|simp) (by simp) (by simp) (by simp) ?_ ?_ ?_
  ·rintro res out ⟨q,rfl,hq,rfl⟩
   exact⟨by simp,by simp,.inl rfl,fun i hi=>by obtain rfl:i=0:=(by omega);simp[chH,stepOk]⟩
  ·intro i hi
   rcases(show i=0∨i=1∨i=2∨i=3 by omega) with rfl|rfl|rfl|rfl<;>simp only[go_sem]
  rintro res out ⟨q,rfl,hq,rfl⟩
  simp only[go_sem]
  refine retN _ _ [(1,101101),(2,101102),(3,101103)] ?_ ⟨q,rfl,hq,rfl⟩ ?_ (by simp[argH,getN]) (by simp only[go_sem])
  ·simp only[go_sem]
  ·simp only[go_sem]
 ·have hx:dPass d p=dIn d p:=by simp_all[dPass]
  rw[hx]
  refine callN (w156 u d p hd hp) [0,1,2,3] [] true 19 4 (by simp only[go_sem];first|done|simp) (by simp only[go_sem];first|done|simp) (by simp) (by simp) (by simp) ?_ ?_ ?_
  ·rintro res out ⟨q,rfl,hq,rfl⟩
   exact⟨by simp,by simp,.inl rfl,fun i hi=>by obtain rfl:i=0:=(by omega);simp[chH,stepOk]⟩
  ·intro i hi
   rcases(show i=0∨i=1∨i=2∨i=3 by omega) with rfl|rfl|rfl|rfl<;>simp only[go_sem]
  rintro res out ⟨q,rfl,hq,rfl⟩
  simp only[go_sem]
  refine retN _ _ [(1,101901),(2,101902),(3,101903)] ?_ ⟨q,rfl,hq,rfl⟩ ?_ (by simp[argH,getN]) (by simp only[go_sem])
  ·simp only[go_sem]
  ·simp only[go_sem]
 ·have hx:dPass d p=(d,none):=by simp_all[dPass]
  rw[hx]
  refine retN _ _ [] ?_ outW_no ?_ (by simp[argH,getN]) (by simp only[go_sem])
  ·simp only[go_sem,Pk.zero,E.zero]
  ·simp only[go_sem]
def ic66:IC:=sR [oP 2 (.mv (.c (.bool false)))] (sR [mV 3 0,oP 4 (.lens (.t 3)),oP 5 (.bin .leq (.t 4) (.c (.int .i64 24))),mV 6 5,⟨some 7,some (6,true),.mv (.t 0)⟩,⟨some 8,some (6,true),.call 112 [.t 7]⟩,oP 9 (.pick (.t 6) (.t 8) (.c (.bool false))),mV 10 9,⟨some 11,some (10,true),.mv (.t 0)⟩,⟨some 12,some (10,true),.call 113 [.t 11]⟩,⟨some 13,some (10,true),.bin .eql (.t 12) (.c i0)⟩,oP 14 (.pick (.t 10) (.t 13) (.c (.bool false))),mV 2 14] .ret)
theorem dg66:Dg Tryz.prog 66 Tryz.f66 ic66 [(.t 2)]:=⟨Tryz.func66,by kernel_rfl,by kernel_rfl⟩
theorem c66 (t:B) (hl:t.length≤2000000):FnR Tryz.prog G 66 [.str t] (.bool (saying t)):=by
 refine mF dg66 Tryz.ntmps66 ?_
 simp only[ic66,go_sem]
 have c1:=c112 t hl
 have c2:=c113 t hl
 with_reducible repeat' (first|refine br ?_ ?_<;>intro h e<;>(try simp only[e,go_sem])<;>clear e|rw[i64w (by omega)]|refine sd ?_<;>try simp only[go_sem]|(first|refine cr (c1 ..) ?_|refine cr (c2 ..) ?_)<;>try simp only[go_sem]|fail)
 all_goals simp_all[saying]
 all_goals omega
theorem findIdx_no {α:Type} {P:α→Bool} {l:List α} (h:l.any P=false):l.findIdx? P=none:=List.findIdx?_eq_none_iff.2 fun x hx=>by simpa using List.any_eq_false.1 h x hx
theorem findIdx_yes {α:Type} {P:α→Bool} {l:List α} {k:Nat} (hk:k<l.length) (h:(l.take k).any P=false) (hp:P l[k]=true):l.findIdx? P=some k:=by
 refine List.findIdx?_eq_some_iff_getElem.2 ⟨hk,hp,fun j hj=>?_⟩
 have:=List.any_eq_false.1 h l[j] (List.mem_iff_getElem?.2 ⟨j,by rw[List.getElem?_take,if_pos hj];exact List.getElem?_eq_getElem _⟩)
 simpa using this
theorem any_step {α:Type} {P:α→Bool} {l:List α} {k:Nat} (hk:k<l.length) (h:(l.take k).any P=false) (hp:P l[k]=false):(l.take (k+1)).any P=false:=by
 rw[List.take_add_one,List.getElem?_eq_getElem hk]
 simp only[Option.toList_some,List.any_append,h,List.any_cons,List.any_nil,Bool.or_false,Bool.false_or,hp]
theorem ixI_any {α:Type} {P:α→Bool} {l:List α}:decide (0≤ixI (l.findIdx? P))=l.any P:=by
 cases h:l.any P with
 | false=>rw[findIdx_no h];rfl
 | true =>
   obtain⟨x,hx,hp⟩:=List.any_eq_true.1 h
   cases hf:l.findIdx? P with
   | none=>have:=List.findIdx?_eq_none_iff.1 hf x hx;rw[hp] at this;cases this
   | some k=>simp[ixI]
def ic114:IC:=sR [oP 4 (.mv (.c i0))] (.seq (sR [mV 6 0,oP 7 (.len (.t 6)),oP 8 (.mv (.c i0))] (.block 0 (.loop (sR [bN 9 .lss 8 7] (.seq (.cond (.t 9) .skip (.exit 0)) (.seq (.block 1 (sR [mV 10 8,mV 5 10] (sR [mV 11 1,mV 12 0,mV 13 5,oP 14 (.iad 2 (.t 12) (.t 13)),lA 15 2 14,oP 16 (.cal (.t 11) [.t 15])] (.cond (.t 16) (sR [mV 17 5,mV 4 17] .ret) .skip)))) (.reg [oP 18 (.bin .add (.t 8) (.c (.int .i64 1))),mV 8 18]))))))) (sR [oP 4 (.mv (.c (.int .i64 (-1))))] .ret))
theorem dg114:Dg Tryz.prog 114 Tryz.f114 ic114 [(.t 4)]:=⟨Tryz.func114,by kernel_rfl,by kernel_rfl⟩
theorem c114 (l:List E) (hl:l.length≤2000000):FnR Tryz.prog G 114 [.sl 2 (l.map E.row),.fn 69 []] (.int .i64 (ixI (l.findIdx? E.door))):=by
 refine mF dg114 Tryz.ntmps114 ?_
 simp only[ic114,go_sem]
 refine loopN (fun k:Nat=>⟨getL [(0,.sl 2 (l.map E.row)),(1,.fn 69 []),(7,.int .i64 l.length),(8,.int .i64 (k:Int))],getH []⟩) (fun k=>l.length - k)
  (fun k=>k≤l.length∧(l.take k).any E.door=false) 0 (leQ []) ⟨Nat.zero_le _,by simp⟩ ?_
 intro k ⟨hk,ha⟩
 simp only[go_sem]
 by_cases h:(k:Int)<l.length
 ·have hil:k<l.length:=by omega
  have hg:l.getD k default=l[k]:=by simp[List.getD,hil]
  have hy:=findIdx_yes hil ha
  have hs:=any_step hil ha
  simp only[eq_true h,go_sem]
  with_reducible repeat' (first|refine br ?_ ?_<;>intro h e<;>(try simp only[e,go_sem,hg])<;>clear e|rw[i64w (by omega)]|refine sd ?_<;>try simp only[go_sem,hg]|(first|refine cr (c69 ..) ?_)<;>try simp only[go_sem,hg]|fail)
  ·rw[hy (by assumption)];rfl
  ·exact⟨k+1,by omega,⟨by omega,hs (by assumption)⟩,(leQ [])⟩
 ·simp only[eq_false h,go_sem]
  have:k=l.length:=by omega
  subst this
  rw[List.take_length] at ha
  rw[findIdx_no ha];rfl
def ic67:IC:=sR [oP 4 (.mv (.c (.bool false)))] (sR [mV 5 0,mV 6 1,oP 7 (.call 114 [.t 5,.t 6]),oP 8 (.bin .geq (.t 7) (.c i0)),mV 4 8] .ret)
theorem dg67:Dg Tryz.prog 67 Tryz.f67 ic67 [(.t 4)]:=⟨Tryz.func67,by kernel_rfl,by kernel_rfl⟩
theorem c67 (l:List E) (hl:l.length≤2000000):FnR Tryz.prog G 67 [.sl 2 (l.map E.row),.fn 69 []] (.bool (l.any E.door)):=by
 refine mF dg67 Tryz.ntmps67 ?_
 simp only[ic67,go_sem]
 refine callR (c114 l hl) rfl rfl ?_
 simp only[go_sem,ixI_any]
theorem names_2m {t:B} (hl:t.length≤2000000):(textNames t).length≤2000000:=by
 have h1:=textPieces_len t
 have h2:=names_le (textPieces t)
 unfold textNames;omega
def ic40:IC:=sR [oP 4 (.box 45 (.t 0)),oP 5 (.box 45 (.t 1)),oP 8 (.alloc 47 [i0,i0,i0,i0,s0,s0,i0,i0,s0,s0]),oP 9 (.mv (.c (.bool false)))] (.seq (sR [lA 10 2 4,oP 11 (.call 64 [.t 10]),oP 12 (.un .not (.t 11)),mV 13 12,⟨some 14,some (13,false),.ld 2 true (.t 5)⟩,⟨some 15,some (13,false),.call 65 [.t 14]⟩,⟨some 16,some (13,false),.un .not (.t 15)⟩,oP 17 (.pick (.t 13) (.c (.bool true)) (.t 16)),mV 18 17,⟨some 19,some (18,false),.mv (.t 2)⟩,⟨some 20,some (18,false),.call 66 [.t 19]⟩,⟨some 21,some (18,false),.un .not (.t 20)⟩,oP 22 (.pick (.t 18) (.c (.bool true)) (.t 21)),mV 23 22,⟨some 24,some (23,false),.mv (.t 3)⟩,⟨some 25,some (23,false),.call 66 [.t 24]⟩,⟨some 26,some (23,false),.un .not (.t 25)⟩,oP 27 (.pick (.t 23) (.c (.bool true)) (.t 26)),mV 28 27,⟨some 29,some (28,false),.mv (.t 2)⟩,⟨some 30,some (28,false),.call 68 [.t 29]⟩,⟨some 31,some (28,false),.call 67 [.t 30,.c (.fn 69 [])]⟩,oP 32 (.pick (.t 28) (.c (.bool true)) (.t 31))] (.cond (.t 32) (sR [oP 33 (.build [i0,i0,i0,i0,s0,s0,i0,i0,s0,s0] []),nP (.sto 10 (.t 8) (.t 33)),oP 9 (.mv (.c (.bool false)))] .ret) .skip)) (sR [lA 34 2 4,lA 35 2 5,mV 36 2,mV 37 3,oP 38 (.build [i0,i0,i0,i0,s0,s0,i0,i0,s0,s0] [(0,(2,.t 34)),(2,(2,.t 35)),(4,(1,.t 36)),(5,(1,.t 37))]),nP (.sto 10 (.t 8) (.t 38)),oP 9 (.mv (.c (.bool true)))] .ret))
theorem dg40:Dg Tryz.prog 40 Tryz.f40 ic40 [(.cell 8 10 true),(.t 9)]:=⟨Tryz.func40,by kernel_rfl,by kernel_rfl⟩
theorem c40 (i o:E) (up down:B) (h1:up.length≤2000000) (h2:down.length≤2000000):FnR Tryz.prog G 40 [.agg [.int .i64 i.a,.int .i64 i.p],.agg [.int .i64 o.a,.int .i64 o.p],.str up,.str down]
 (.tup [.agg (Conv.row ((convNew i o up down).getD .zero)),.bool (convNew i o up down).isSome]):=by
 refine mF dg40 Tryz.ntmps40 ?_
 simp only[ic40,go_sem]
 have c1:=c66 up h1
 have c2:=c66 down h2
 have c3:=c68 up h1
 have c4:=c67 (textNames up) (names_2m h1)
 have ho:ownT up=!(textNames up).any E.door:=rfl
 generalize (textNames up).any E.door=nd at *
 with_reducible repeat' (first|refine br ?_ ?_<;>intro h e<;>(try simp only[e,go_sem])<;>clear e|rw[i64w (by omega)]|refine sd ?_<;>try simp only[go_sem]|(first|refine cr (c64 ..) ?_|refine cr (c65 ..) ?_|refine cr (c1 ..) ?_|refine cr (c2 ..) ?_|refine cr (c3 ..) ?_|refine cr (c4 ..) ?_)<;>try simp only[go_sem]|fail)
 all_goals simp_all[convNew,Conv.zero,E.zero]
def ic70:IC:=sR [oP 1 (.box 47 (.t 0)),oP 2 (.mv (.c (.bool false)))] (sR [fD 6 0 1,lA 7 2 6,fD 8 2 1,lA 9 2 8,fD 10 4 1,lD 11 1 10,fD 12 5 1,lD 13 1 12,oP 14 (.call 40 [.t 7,.t 9,.t 11,.t 13]),mV 5 14,eX 15 5 0,eX 16 5 1,oP 3 (.alloc 47 [i0,i0,i0,i0,s0,s0,i0,i0,s0,s0]),nP (.sto 10 (.t 3) (.t 15)),mV 4 16] (sR [mV 17 4,mV 18 17,⟨some 19,some (18,true),.fad 6 (.t 1)⟩,⟨some 20,some (18,true),.ld 1 false (.t 19)⟩,⟨some 21,some (18,true),.fad 4 (.t 1)⟩,⟨some 22,some (18,true),.ld 1 false (.t 21)⟩,⟨some 23,some (18,true),.lens (.t 22)⟩,⟨some 24,some (18,true),.call 76 [.t 20,.c i0,.t 23]⟩,oP 25 (.pick (.t 18) (.t 24) (.c (.bool false))),mV 26 25,⟨some 27,some (26,true),.fad 7 (.t 1)⟩,⟨some 28,some (26,true),.ld 1 false (.t 27)⟩,⟨some 29,some (26,true),.fad 5 (.t 1)⟩,⟨some 30,some (26,true),.ld 1 false (.t 29)⟩,⟨some 31,some (26,true),.lens (.t 30)⟩,⟨some 32,some (26,true),.call 76 [.t 28,.c i0,.t 31]⟩,oP 33 (.pick (.t 26) (.t 32) (.c (.bool false))),mV 34 33,⟨some 35,some (34,true),.fad 8 (.t 1)⟩,⟨some 36,some (34,true),.ld 1 false (.t 35)⟩,⟨some 37,some (34,true),.call 112 [.t 36]⟩,oP 38 (.pick (.t 34) (.t 37) (.c (.bool false))),mV 39 38,⟨some 40,some (39,true),.fad 9 (.t 1)⟩,⟨some 41,some (39,true),.ld 1 false (.t 40)⟩,⟨some 42,some (39,true),.call 112 [.t 41]⟩,oP 43 (.pick (.t 39) (.t 42) (.c (.bool false))),mV 2 43] .ret))
theorem dg70:Dg Tryz.prog 70 Tryz.f70 ic70 [(.t 2)]:=⟨Tryz.func70,by kernel_rfl,by kernel_rfl⟩
theorem c70 (c:Conv) (h1:c.up.length≤2000000) (h2:c.down.length≤2000000) (h3:c.upGot.length≤2000000) (h4:c.downGot.length≤2000000):FnR Tryz.prog G 70 [.agg [.int .i64 c.ins.a,.int .i64 c.ins.p,.int .i64 c.out.a,.int .i64 c.out.p,.str c.up,.str c.down,.int .i64 c.upAck,.int .i64 c.downAck,.str c.upGot,.str c.downGot]] (.bool (convOk c)):=by
 refine mF dg70 Tryz.ntmps70 ?_
 simp only[ic70,go_sem]
 refine callR (c40 c.ins c.out c.up c.down h1 h2) rfl rfl ?_
 simp only[go_sem]
 have c1:=c112 c.upGot h3
 have c2:=c112 c.downGot h4
 with_reducible repeat' (first|refine br ?_ ?_<;>intro h e<;>(try simp only[e,go_sem])<;>clear e|rw[i64w (by omega)]|refine sd ?_<;>try simp only[go_sem]|(first|refine cr (c76 ..) ?_|refine cr (c1 ..) ?_|refine cr (c2 ..) ?_)<;>try simp only[go_sem]|fail)
 all_goals simp_all[convOk]
theorem take_drop_len {t:B} {n k:Int} (hn:0≤n) (hk:0≤k):(t.take (n+k).toNat).drop n.toNat=(t.drop n.toNat).take k.toNat:=by
 rw[List.drop_take];congr 1;omega
def sameC (c o:Conv):Bool:=decide (o.ins=c.ins)||decide (o.out=c.out)
def ic72:IC:=sR [oP 2 (.box 47 (.t 0)),oP 3 (.mv (.c (.bool false)))] (sR [fD 4 0 2,lA 5 2 4,fD 6 0 1,lA 7 2 6,oP 8 (.eqs false [.i,.i] (.t 5) (.t 7)),mV 9 8,⟨some 10,some (9,false),.fad 2 (.t 2)⟩,⟨some 11,some (9,false),.ld 2 true (.t 10)⟩,⟨some 12,some (9,false),.fad 2 (.t 1)⟩,⟨some 13,some (9,false),.ld 2 true (.t 12)⟩,⟨some 14,some (9,false),.eqs false [.i,.i] (.t 11) (.t 13)⟩,oP 15 (.pick (.t 9) (.c (.bool true)) (.t 14)),mV 3 15] .ret)
theorem dg72:Dg Tryz.prog 72 Tryz.f72 ic72 [(.t 3)]:=⟨Tryz.func72,by kernel_rfl,by kernel_rfl⟩
theorem c72 (o c:Conv):FnR Tryz.prog G 72 [.agg [.int .i64 o.ins.a,.int .i64 o.ins.p,.int .i64 o.out.a,.int .i64 o.out.p,.str o.up,.str o.down,.int .i64 o.upAck,.int .i64 o.downAck,.str o.upGot,.str o.downGot],.iptr [.int .i64 c.ins.a,.int .i64 c.ins.p,.int .i64 c.out.a,.int .i64 c.out.p,.str c.up,.str c.down,.int .i64 c.upAck,.int .i64 c.downAck,.str c.upGot,.str c.downGot] 0] (.bool (sameC c o)):=by
 refine mF dg72 Tryz.ntmps72 ?_
 simp only[ic72,go_sem,E.ext_iff']
 with_reducible repeat' (first|refine br ?_ ?_<;>intro h e<;>(try simp only[e,go_sem,E.ext_iff'])<;>clear e|rw[i64w (by omega)]|refine sd ?_<;>try simp only[go_sem,E.ext_iff']|fail)
 all_goals simp_all[sameC]
def ic117:IC:=sR [oP 4 (.mv (.c i0))] (.seq (sR [mV 6 0,oP 7 (.len (.t 6)),oP 8 (.mv (.c i0))] (.block 0 (.loop (sR [bN 9 .lss 8 7] (.seq (.cond (.t 9) .skip (.exit 0)) (.seq (.block 1 (sR [mV 10 8,mV 5 10] (sR [mV 11 1,mV 12 0,mV 13 5,oP 14 (.iad 10 (.t 12) (.t 13)),lA 15 10 14,oP 16 (.cal (.t 11) [.t 15])] (.cond (.t 16) (sR [mV 17 5,mV 4 17] .ret) .skip)))) (.reg [oP 18 (.bin .add (.t 8) (.c (.int .i64 1))),mV 8 18]))))))) (sR [oP 4 (.mv (.c (.int .i64 (-1))))] .ret))
theorem dg117:Dg Tryz.prog 117 Tryz.f117 ic117 [(.t 4)]:=⟨Tryz.func117,by kernel_rfl,by kernel_rfl⟩
theorem c117T (l:List Conv) (c:Conv) (hl:l.length≤2000000):FnR Tryz.prog G 117 [.sl 10 (l.map Conv.row),.fn 72 [.iptr [.int .i64 c.ins.a,.int .i64 c.ins.p,.int .i64 c.out.a,.int .i64 c.out.p,.str c.up,.str c.down,.int .i64 c.upAck,.int .i64 c.downAck,.str c.upGot,.str c.downGot] 0]] (.int .i64 (ixI (l.findIdx? (sameC c)))):=by
 refine mF dg117 Tryz.ntmps117 ?_
 simp only[ic117,go_sem]
 refine loopN (fun k:Nat=>⟨getL [(0,.sl 10 (l.map Conv.row)),(1,.fn 72 [.iptr [.int .i64 c.ins.a,.int .i64 c.ins.p,.int .i64 c.out.a,.int .i64 c.out.p,.str c.up,.str c.down,.int .i64 c.upAck,.int .i64 c.downAck,.str c.upGot,.str c.downGot] 0]),(7,.int .i64 l.length),(8,.int .i64 (k:Int))],getH []⟩) (fun k=>l.length - k)
  (fun k=>k≤l.length∧(l.take k).any (sameC c)=false) 0 (leQ []) ⟨Nat.zero_le _,by simp⟩ ?_
 intro k ⟨hk,ha⟩
 simp only[go_sem]
 by_cases h:(k:Int)<l.length
 ·have hil:k<l.length:=by omega
  have hg:l.getD k default=l[k]:=by simp[List.getD,hil]
  have hy:=findIdx_yes hil ha
  have hs:=any_step hil ha
  simp only[eq_true h,go_sem]
  refine effG (by omega) ?_
  simp only[hg,go_sem]
  refine callR (c72 l[k] c) rfl rfl ?_
  simp only[go_sem]
  with_reducible repeat' (first|refine br ?_ ?_<;>intro h e<;>(try simp only[e,go_sem])<;>clear e|rw[i64w (by omega)]|refine sd ?_<;>try simp only[go_sem]|fail)
  ·rw[hy (by assumption)];rfl
  ·exact⟨k+1,by omega,⟨by omega,hs (by assumption)⟩,(leQ [])⟩
 ·simp only[eq_false h,go_sem]
  have:k=l.length:=by omega
  subst this
  rw[List.take_length] at ha
  rw[findIdx_no ha];rfl
def ic71:IC:=sR [oP 4 (.mv (.c (.bool false)))] (sR [mV 5 0,mV 6 1,oP 7 (.call 117 [.t 5,.t 6]),oP 8 (.bin .geq (.t 7) (.c i0)),mV 4 8] .ret)
theorem dg71:Dg Tryz.prog 71 Tryz.f71 ic71 [(.t 4)]:=⟨Tryz.func71,by kernel_rfl,by kernel_rfl⟩
theorem c71T (l:List Conv) (c:Conv) (hl:l.length≤2000000):FnR Tryz.prog G 71 [.sl 10 (l.map Conv.row),.fn 72 [.iptr [.int .i64 c.ins.a,.int .i64 c.ins.p,.int .i64 c.out.a,.int .i64 c.out.p,.str c.up,.str c.down,.int .i64 c.upAck,.int .i64 c.downAck,.str c.upGot,.str c.downGot] 0]] (.bool (l.any (sameC c))):=by
 refine mF dg71 Tryz.ntmps71 ?_
 simp only[ic71,go_sem]
 refine callR (c117T l c hl) rfl rfl ?_
 simp only[go_sem,ixI_any]
theorem okConv_b {cs:List Conv} {k:Nat} (h:k<cs.length) (hb:okConv cs k=false):together cs=false:=by
 cases ht:together cs with
 | false=>rfl
 | true=>rw[(together_iff.1 ht).2 k h] at hb;cases hb
def ic41:IC:=sR [oP 2 (.mv (.c (.bool false)))] (.seq (sR [mV 5 0,oP 6 (.len (.t 5)),oP 7 (.mv (.c i0))] (.block 0 (.loop (sR [bN 8 .lss 7 6] (.seq (.cond (.t 8) .skip (.exit 0)) (.seq (.block 1 (sR [mV 9 7,oP 10 (.iad 10 (.t 5) (.t 7)),lA 11 10 10,oP 4 (.alloc 47 [i0,i0,i0,i0,s0,s0,i0,i0,s0,s0]),mV 3 9,nP (.sto 10 (.t 4) (.t 11))] (sR [lA 12 10 4,oP 13 (.call 70 [.t 12]),oP 14 (.un .not (.t 13)),mV 15 14,⟨some 16,some (15,false),.mv (.t 0)⟩,⟨some 17,some (15,false),.mv (.t 3)⟩,⟨some 18,some (15,false),.slv 10 (.t 16) none (some (.t 17))⟩,⟨some 19,some (15,false),.mkf 72 [.t 4]⟩,⟨some 20,some (15,false),.call 71 [.t 18,.t 19]⟩,oP 21 (.pick (.t 15) (.c (.bool true)) (.t 20))] (.cond (.t 21) (sR [oP 2 (.mv (.c (.bool false)))] .ret) .skip)))) (.reg [oP 22 (.bin .add (.t 7) (.c (.int .i64 1))),mV 7 22]))))))) (sR [mV 23 0,oP 24 (.len (.t 23)),oP 25 (.bin .leq (.t 24) (.c (.int .i64 2))),mV 2 25] .ret))
theorem dg41:Dg Tryz.prog 41 Tryz.f41 ic41 [(.t 2)]:=⟨Tryz.func41,by kernel_rfl,by kernel_rfl⟩
theorem c41 (cs:List Conv) (hl:cs.length≤2000000) (hB:∀c∈cs,(c.up.length≤2000000∧c.down.length≤2000000)∧c.upGot.length≤2000000∧c.downGot.length≤2000000):FnR Tryz.prog G 41 [.sl 10 (cs.map Conv.row)] (.bool (together cs)):=by
 refine mF dg41 Tryz.ntmps41 ?_
 simp only[ic41,go_sem]
 refine loopN (fun i:Nat=>⟨getL [(0,.sl 10 (cs.map Conv.row)),(5,.sl 10 (cs.map Conv.row)),(6,.int .i64 cs.length),(7,.int .i64 (i:Int))],getH []⟩) (fun i=>cs.length - i) (fun i=>i≤cs.length∧∀j,j<i→okConv cs j=true) 0 (leQ []) ⟨Nat.zero_le _,by omega⟩ ?_
 intro i ⟨hi,ha⟩
 simp only[go_sem]
 by_cases h:(i:Int)<cs.length
 ·have hil:i<cs.length:=by omega
  have hg:cs.getD i default=cs[i]:=by simp[List.getD,hil]
  have hok:=okConv_i hil
  obtain⟨⟨b1,b2⟩,b3,b4⟩:=hB _ (List.getElem_mem hil)
  have c1:=c70 cs[i] b1 b2 b3 b4
  have c2:=c71T (cs.take i) cs[i] (by simp;omega)
  simp only[eq_true h,go_sem]
  with_reducible repeat' (first|refine br ?_ ?_<;>intro h e<;>(try simp only[e,go_sem,hg,mkf_pv1])<;>clear e|rw[i64w (by omega)]|refine sd ?_<;>try simp only[go_sem,hg,mkf_pv1]|(first|refine cr (c1 ..) ?_)<;>try simp only[go_sem,hg,mkf_pv1]|fail)
  ·exact okConv_b hil (by rw[hok];simp_all)
  refine callF c2 [1004] true (by simp only[go_sem,List.mem_cons,true_or,or_true]) (by simp only[List.mem_singleton];rintro c rfl;rfl) rfl (.inl rfl) ?_
  have he:(cs.take i).any (fun o=>decide (o.ins=cs[i].ins)||decide (o.out=cs[i].out))=(cs.take i).any (sameC cs[i]):=rfl
  rw[he] at hok
  generalize (cs.take i).any (sameC cs[i])=b at *
  simp only[go_sem]
  cases b<;>simp only[go_sem]
  ·with_reducible repeat' (first|refine br ?_ ?_<;>intro h e<;>(try simp only[e,go_sem])<;>clear e|rw[i64w (by omega)]|refine sd ?_<;>try simp only[go_sem]|fail)
   refine⟨i+1,by omega,⟨by omega,fun j hj=>?_⟩,(leQ [])⟩
   rcases Nat.lt_or_ge j i with hji|hji
   ·exact ha j hji
   ·obtain rfl:j=i:=by omega
    rw[hok];simp_all
  ·exact okConv_b hil (by rw[hok];simp_all)
 ·simp only[eq_false h,go_sem]
  have:i=cs.length:=by omega
  subst this
  with_reducible repeat' (first|refine br ?_ ?_<;>intro h e<;>(try simp only[e,go_sem])<;>clear e|rw[i64w (by omega)]|refine sd ?_<;>try simp only[go_sem]|fail)
  have h1:=together_iff (cs:=cs)
  by_cases h2:cs.length≤2
  ·rw[h1.2 ⟨h2,ha⟩];exact(decide_eq_true (by omega)).symm
  ·have:together cs=false:=by
    cases ht:together cs with
    | false=>rfl
    | true=>exact absurd (h1.1 ht).1 h2
   rw[this];exact(decide_eq_false (by omega)).symm
theorem resL_0:resL []=some (.tup []):=rfl
theorem say_no {c:Conv} {up:Bool} {port n m:Int} (h:within n 0 ((bif up then c.up else c.down).length - 1)=false∨m<1∨(up=false∧(⟨9,port⟩:E).door=false)):say c up port n m=none:=by
 unfold say
 cases up<;>simp only[cond_true,cond_false] at h<;>simp only[Bool.false_eq_true,if_false,if_true]<;>rw[if_neg]<;>simp only[Bool.and_eq_true,decide_eq_true_eq,not_and,Bool.or_eq_true,Bool.false_eq_true,false_or,true_or,not_true_eq_false]
 ·rintro⟨h1,h2⟩ h3
  rcases h with h|h|h
  ·rw[h1] at h;cases h
  ·omega
  ·rw[h.2] at h3;cases h3
 ·rintro h1
  rcases h with h|h|h
  ·rw[h1.1] at h;cases h
  ·omega
  ·cases h.1
theorem say_yes {c:Conv} {up:Bool} {port n m:Int} (h1:within n 0 ((bif up then c.up else c.down).length - 1)=true) (h2:1≤m) (h3:up=true∨(⟨9,port⟩:E).door=true) :
 say c up port n m=some (bif up then⟨1,c.ins,c.out,n,(c.up.drop n.toNat).take (min m (c.up.length - n)).toNat⟩ else⟨1,c.out,⟨9,port⟩,n,(c.down.drop n.toNat).take (min m (c.down.length - n)).toNat⟩):=by
 unfold say
 cases up<;>simp only[cond_true,cond_false] at h1 ⊢<;>simp only[Bool.false_eq_true,if_false,if_true]<;>rw[if_pos]
 ·simp only[h1,Bool.true_and,Bool.and_eq_true,decide_eq_true_eq,Bool.false_or]
  exact⟨h2,h3.resolve_left (by simp)⟩
 ·simp only[h1,Bool.true_and,Bool.and_eq_true,decide_eq_true_eq,Bool.true_or,and_true]
  exact h2
def ic78:IC:=sR [oP 5 (.box 47 (.t 0)),oP 10 (.alloc 70 [i0,i0,i0,i0,i0,i0,s0]),oP 11 (.mv (.c (.bool false)))] (sR [fD 14 0 5,lA 15 2 14,fD 16 2 5,lA 17 2 16,mV 18 3,oP 19 (.build [i0,i0,i0,i0,i0,i0,s0] [(0,(1,.c (.int .i64 1))),(1,(2,.t 15)),(3,(2,.t 17)),(5,(1,.t 18))]),oP 12 (.alloc 70 [i0,i0,i0,i0,i0,i0,s0]),nP (.sto 7 (.t 12) (.t 19))] (sR [fD 20 4 5,lD 21 1 20,mV 13 21] (.seq (sR [mV 22 1,oP 23 (.un .not (.t 22))] (.cond (.t 23) (sR [fD 24 2 5,lA 25 2 24,mV 26 2,oP 27 (.build [i0,i0] [(0,(1,.c (.int .i64 9))),(1,(1,.t 26))]),fD 28 1 12,nP (.sto 2 (.t 28) (.t 25)),fD 29 3 12,nP (.sto 2 (.t 29) (.t 27))] (.reg [fD 30 5 5,lD 31 1 30,mV 13 31])) .skip)) (.seq (sR [mV 32 3,mV 33 13,oP 34 (.lens (.t 33)),oP 35 (.bin .sub (.t 34) (.c (.int .i64 1))),oP 36 (.call 76 [.t 32,.c i0,.t 35]),oP 37 (.un .not (.t 36)),mV 38 37,⟨some 39,some (38,false),.mv (.t 4)⟩,⟨some 40,some (38,false),.bin .lss (.t 39) (.c (.int .i64 1))⟩,oP 41 (.pick (.t 38) (.c (.bool true)) (.t 40)),mV 42 41,⟨some 43,some (42,false),.mv (.t 1)⟩,⟨some 44,some (42,false),.un .not (.t 43)⟩,⟨some 45,some (42,false),.mv (.t 44)⟩,⟨some 46,some (45,true),.fad 3 (.t 12)⟩,⟨some 47,some (45,true),.ld 2 true (.t 46)⟩,⟨some 48,some (45,true),.call 69 [.t 47]⟩,⟨some 49,some (45,true),.un .not (.t 48)⟩,⟨some 50,some (42,false),.pick (.t 45) (.t 49) (.c (.bool false))⟩,oP 51 (.pick (.t 42) (.c (.bool true)) (.t 50))] (.cond (.t 51) (sR [oP 52 (.build [i0,i0,i0,i0,i0,i0,s0] []),nP (.sto 7 (.t 10) (.t 52)),oP 11 (.mv (.c (.bool false)))] .ret) .skip)) (sR [mV 53 13,mV 54 3,mV 55 3,mV 56 4,mV 57 13,oP 58 (.lens (.t 57)),mV 59 3,bN 60 .sub 58 59,oP 61 (.mn (.t 56) (.t 60)),bN 62 .add 55 61,oP 63 (.sls (.t 53) (some (.t 54)) (some (.t 62))),fD 64 6 12,nP (.sto 1 (.t 64) (.t 63))] (sR [lA 65 7 12,nP (.sto 7 (.t 10) (.t 65)),oP 11 (.mv (.c (.bool true)))] .ret))))))
theorem dg78:Dg Tryz.prog 78 Tryz.f78 ic78 [(.cell 10 7 true),(.t 11)]:=⟨Tryz.func78,by kernel_rfl,by kernel_rfl⟩
theorem c78 (c:Conv) (up:Bool) (port n m:Int) (h1:c.up.length≤2000000) (h2:c.down.length≤2000000):FnR Tryz.prog G 78 [.agg [.int .i64 c.ins.a,.int .i64 c.ins.p,.int .i64 c.out.a,.int .i64 c.out.p,.str c.up,.str c.down,.int .i64 c.upAck,.int .i64 c.downAck,.str c.upGot,.str c.downGot],.bool up,.int .i64 port,.int .i64 n,.int .i64 m]
 (.tup [.agg (Pk.row ((say c up port n m).getD .zero)),.bool (say c up port n m).isSome]):=by
 refine mF dg78 Tryz.ntmps78 ?_
 simp only[ic78,go_sem]
 cases up<;>simp only[go_sem]
 ·have hno:=fun h=>say_no (c:=c) (up:=false) (port:=port) (n:=n) (m:=m) h
  have hyes:=fun h1 h2 h3=>say_yes (c:=c) (up:=false) (port:=port) (n:=n) (m:=m) h1 h2 h3
  simp only[cond_false,true_and,Bool.false_eq_true,false_or] at hno hyes
  rw[i64w (by omega)]
  refine callR (c76 n 0 ((c.down.length:Int) - 1)) rfl rfl ?_
  cases hw:within n 0 ((c.down.length:Int) - 1)<;>simp only[go_sem]
  ·rw[hno (.inl hw)];simp[Pk.zero,E.zero]
  have hw2:=M.within_iff.1 hw
  have w1:IntKind.i64.wrap ((c.down.length:Int) - n)=c.down.length - n:=i64w (by omega)
  have w2:1≤m→IntKind.i64.wrap (n+min m ((c.down.length:Int) - n))=n+min m ((c.down.length:Int) - n):=fun _=>i64w (by omega)
  with_reducible repeat' (first|refine br ?_ ?_<;>intro h e<;>(try simp only[e,go_sem,w1])<;>clear e|rw[i64w (by omega)]|refine sd ?_<;>try simp only[go_sem,w1]|(first|refine cr (c69 ..) ?_)<;>try simp only[go_sem,w1]|fail)
  ·rw[hno (.inr (.inl (by assumption)))];simp[Pk.zero,E.zero]
  ·have w2:=w2 (by omega)
   rw[hyes hw (by omega) (by assumption),take_drop_len (by omega) (by omega)]
   simp
  ·rw[hno (.inr (.inr (by assumption)))];simp[Pk.zero,E.zero]
 ·have hno:=fun h=>say_no (c:=c) (up:=true) (port:=port) (n:=n) (m:=m) h
  have hyes:=fun h1 h2 h3=>say_yes (c:=c) (up:=true) (port:=port) (n:=n) (m:=m) h1 h2 h3
  simp only[cond_true,true_or,true_implies,Bool.true_eq_false,false_and,or_false] at hno hyes
  rw[i64w (by omega)]
  refine callR (c76 n 0 ((c.up.length:Int) - 1)) rfl rfl ?_
  cases hw:within n 0 ((c.up.length:Int) - 1)<;>simp only[go_sem]
  ·rw[hno (.inl hw)];simp[Pk.zero,E.zero]
  have hw2:=M.within_iff.1 hw
  have w1:IntKind.i64.wrap ((c.up.length:Int) - n)=c.up.length - n:=i64w (by omega)
  have w2:1≤m→IntKind.i64.wrap (n+min m ((c.up.length:Int) - n))=n+min m ((c.up.length:Int) - n):=fun _=>i64w (by omega)
  with_reducible repeat' (first|refine br ?_ ?_<;>intro h e<;>(try simp only[e,go_sem,w1])<;>clear e|rw[i64w (by omega)]|refine sd ?_<;>try simp only[go_sem,w1]|(first|refine cr (c69 ..) ?_)<;>try simp only[go_sem,w1]|fail)
  ·rw[hno (.inr (by assumption))];simp[Pk.zero,E.zero]
  ·have w2:=w2 (by omega)
   rw[hyes hw (by omega),take_drop_len (by omega) (by omega)]
   simp
def ic77:IC:=sR [oP 4 (.box 70 (.t 1))] (sR [mV 6 2,mV 7 6,⟨some 8,some (7,true),.mv (.t 0)⟩,⟨some 9,some (7,true),.nilc (.t 8)⟩,⟨some 10,some (7,true),.fad 3 (.t 9)⟩,⟨some 11,some (7,true),.ld 1 false (.t 10)⟩,⟨some 12,some (7,true),.len (.t 11)⟩,⟨some 13,some (7,true),.bin .lss (.t 12) (.c (.int .i64 10))⟩,oP 14 (.pick (.t 7) (.t 13) (.c (.bool false)))] (.cond (.t 14) (.drw [0,0,2,6,14,0,32,126,255,511,1023] [(0,mV 15 0),(1,mV 16 0),(2,oP 17 (.nilc (.t 16))),(3,fD 18 3 17),(4,lD 19 1 18),(5,lA 20 7 4),(6,oP 21 (.bsl 70 7 [.t 20])),(7,oP 22 (.app 70 7 (.t 19) (.t 21))),(8,oP 23 (.nilc (.t 15))),(9,fD 24 3 23),(10,nP (.sto 1 (.t 24) (.t 22)))]) .skip))
theorem dg77:Dg Tryz.prog 77 Tryz.f77 ic77 []:=⟨Tryz.func77,by kernel_rfl,by kernel_rfl⟩
theorem c77 (w:M.World) (p:Pk) (ok:Bool) (hn:w.nets.length≤2000000):FnP Tryz.prog G 77 1 [.var 41 [.own 2 w.convs.length,.sl 3 (w.door.map.map Pair.row),.own 1 w.door.flows.length,.own 3 w.nets.length],.arr 181 8 (w.door.flows.map Flw.row),.arr 47 10 (w.convs.map Conv.row),.arr 70 7 (w.nets.map Pk.row)] [.pv 0 0,.agg [.int .i64 p.kind,.int .i64 p.frm.a,.int .i64 p.frm.p,.int .i64 p.to.a,.int .i64 p.to.p,.int .i64 p.at_,.str p.text],.bool ok] (fun r o=>r=.tup []∧∃v,v=send w (bif ok then some p else none)∧o=[.var 41 [.own 2 v.convs.length,.sl 3 (v.door.map.map Pair.row),.own 1 v.door.flows.length,.own 3 v.nets.length],.arr 181 8 (v.door.flows.map Flw.row),.arr 47 10 (v.convs.map Conv.row),.arr 70 7 (v.nets.map Pk.row)]):=by
 refine mP dg77 Tryz.ntmps77 ⟨_,_,rfl,_,rfl,rfl⟩ ?_
 simp only[ic77,go_sem]
 have hno:send w none=w:=rfl
 have hfull:¬w.nets.length<10→send w (some p)=w:=fun h=>by simp only[send];rw[if_neg h]
 have fin:∀l mm (v:M.World) (o:Option Pk) (n:Nat),send w o=v→v.convs=w.convs→v.door=w.door→getH mm 0=.var 41 [.own 2 w.convs.length,.sl 3 (w.door.map.map Pair.row),.own 1 w.door.flows.length,.own n v.nets.length]→getH mm 1=.arr 181 8 (w.door.flows.map Flw.row)→getH mm 2=.arr 47 10 (w.convs.map Conv.row)→getH mm n=.arr 70 7 (v.nets.map Pk.row)→n≠0→n≠1→n≠2 →
  retQ [] 1 (fun r o'=>r=.tup []∧∃v,v=send w o∧o'=[.var 41 [.own 2 v.convs.length,.sl 3 (v.door.map.map Pair.row),.own 1 v.door.flows.length,.own 3 v.nets.length],.arr 181 8 (v.door.flows.map Flw.row),.arr 47 10 (v.convs.map Conv.row),.arr 70 7 (v.nets.map Pk.row)]) .normal ⟨getL l,getH mm⟩:=fun l mm v o n h0 h1 h2 h3 h4 h5 h6 n0 n1 n2=>by
  show retQ _ _ _ .ret _
  refine retN (.tup []) [.var 41 [.own 2 v.convs.length,.sl 3 (v.door.map.map Pair.row),.own 1 v.door.flows.length,.own 3 v.nets.length],.arr 181 8 (v.door.flows.map Flw.row),.arr 47 10 (v.convs.map Conv.row),.arr 70 7 (v.nets.map Pk.row)] [(3,n)] (by simp only[go_sem,resL_0]) ⟨rfl,v,h0.symm,rfl⟩ ?_ ?_ (by simp only[go_sem])
  ·rw[h1,h2];simp only[go_sem,h3,h4,h5,h6]
  ·simp[argH,getN];omega
 cases ok<;>simp only[go_sem]
 ·exact fin _ _ w none 3 rfl rfl rfl (by simp only[go_sem]) (by simp only[go_sem]) (by simp only[go_sem]) (by simp only[go_sem]) (by omega) (by omega) (by omega)
 with_reducible repeat' (first|refine br ?_ ?_<;>intro h e<;>(try simp only[e,go_sem])<;>clear e|rw[i64w (by omega)]|refine sd ?_<;>try simp only[go_sem]|fail)
 ·have hx:send w (some p)={ w with nets:=w.nets++[p] }:=by simp only[send];rw[if_pos (by omega)]
  exact fin _ _ { w with nets:=w.nets++[p] } (some p) 1022 hx rfl rfl (by simp only[go_sem];simp) (by simp only[go_sem]) (by simp only[go_sem]) (by simp only[go_sem];simp[Pk.row]) (by omega) (by omega) (by omega)
 ·exact fin _ _ w (some p) 3 (hfull (by omega)) rfl rfl (by simp only[go_sem]) (by simp only[go_sem]) (by simp only[go_sem]) (by simp only[go_sem]) (by omega) (by omega) (by omega)
def ic127:IC:=sR [oP 5 (.box 70 (.t 2)),oP 6 (.alloc 70 [i0,i0,i0,i0,i0,i0,s0]),oP 7 (.mv (.c (.bool false)))] (.seq (.drw [0,1,3,0,8,24,0,64,192,448,960,7,2111,8191] [(0,mV 12 0),(1,oP 13 (.nilc (.t 12))),(2,fD 14 8 13),(3,mV 15 0),(4,oP 16 (.nilc (.t 15))),(5,fD 17 7 16),(6,mV 18 0),(7,oP 19 (.nilc (.t 18))),(8,fD 20 5 19),(9,lD 21 1 20),(10,oP 22 (.lens (.t 21))),(11,mV 8 14),(12,mV 9 17),(13,mV 10 22)]) (.seq (.drw [0,1,3,7,15,31,15,79,207,463,1023,2047,4095] [(0,fD 23 1 5),(1,lA 24 2 23),(2,oP 25 (.call 69 [.t 24])),(3,mV 26 25),(4,⟨some 27,some (26,true),.fad 3 (.t 5)⟩),(5,⟨some 28,some (26,true),.ld 2 true (.t 27)⟩),(6,⟨some 29,some (26,true),.mv (.t 0)⟩),(7,⟨some 30,some (26,true),.nilc (.t 29)⟩),(8,⟨some 31,some (26,true),.fad 2 (.t 30)⟩),(9,⟨some 32,some (26,true),.ld 2 true (.t 31)⟩),(10,⟨some 33,some (26,true),.eqs false [.i,.i] (.t 28) (.t 32)⟩),(11,oP 34 (.pick (.t 26) (.t 33) (.c (.bool false)))),(12,mV 11 34)]) (.seq (sR [mV 35 1] (.cond (.t 35) (.seq (.drw [0,1,3,0,8,24,0,64,192,448,960,7,2111,8191] [(0,mV 36 0),(1,oP 37 (.nilc (.t 36))),(2,fD 38 9 37),(3,mV 39 0),(4,oP 40 (.nilc (.t 39))),(5,fD 41 6 40),(6,mV 42 0),(7,oP 43 (.nilc (.t 42))),(8,fD 44 4 43),(9,lD 45 1 44),(10,oP 46 (.lens (.t 45))),(11,mV 8 38),(12,mV 9 41),(13,mV 10 46)]) (.drw [0,1,0,4,12,28,63,127,255,511,255,1279,3327,7423,16383,32767,65535] [(0,fD 47 1 5),(1,lA 48 2 47),(2,mV 49 0),(3,oP 50 (.nilc (.t 49))),(4,fD 51 2 50),(5,lA 52 2 51),(6,oP 53 (.eqs false [.i,.i] (.t 48) (.t 52))),(7,mV 54 53),(8,⟨some 55,some (54,true),.fad 3 (.t 5)⟩),(9,⟨some 56,some (54,true),.ld 2 true (.t 55)⟩),(10,⟨some 57,some (54,true),.mv (.t 0)⟩),(11,⟨some 58,some (54,true),.nilc (.t 57)⟩),(12,⟨some 59,some (54,true),.fad 0 (.t 58)⟩),(13,⟨some 60,some (54,true),.ld 2 true (.t 59)⟩),(14,⟨some 61,some (54,true),.eqs false [.i,.i] (.t 56) (.t 60)⟩),(15,oP 62 (.pick (.t 54) (.t 61) (.c (.bool false)))),(16,mV 11 62)])) .skip)) (.seq (.block 0 (sR [mV 64 11,oP 65 (.un .not (.t 64)),mV 63 65] (.cond (.t 63) (sR [oP 66 (.build [i0,i0,i0,i0,i0,i0,s0] []),nP (.sto 7 (.t 6) (.t 66)),oP 7 (.mv (.c (.bool false)))] .ret) (sR [fD 68 0 5,lD 69 1 68,oP 70 (.bin .eql (.t 69) (.c (.int .i64 2))),mV 67 70] (.cond (.t 67) (.seq (.drw [0,0,2,6,0,16,0,112,254,511,1023] [(0,mV 71 9),(1,mV 72 9),(2,oP 73 (.nilc (.t 72))),(3,lD 74 1 73),(4,fD 75 5 5),(5,lD 76 1 75),(6,mV 77 10),(7,oP 78 (.mn (.t 76) (.t 77))),(8,oP 79 (.mx (.t 74) (.t 78))),(9,oP 80 (.nilc (.t 71))),(10,nP (.sto 1 (.t 80) (.t 79)))]) (sR [oP 81 (.build [i0,i0,i0,i0,i0,i0,s0] []),nP (.sto 7 (.t 6) (.t 81)),oP 7 (.mv (.c (.bool false)))] .ret)) .skip))))) (.seq (.drw [0,0,2,6,0,16,0,64,254,510,1022,1022,2047,6143] [(0,mV 83 8),(1,mV 84 8),(2,oP 85 (.nilc (.t 84))),(3,lD 86 1 85),(4,fD 87 5 5),(5,lD 88 1 87),(6,fD 89 6 5),(7,lD 90 1 89),(8,oP 91 (.call 157 [.t 86,.t 88,.t 90])),(9,mV 82 91),(10,eX 92 82 0),(11,eX 93 82 1),(12,oP 94 (.nilc (.t 83))),(13,nP (.sto 1 (.t 94) (.t 92)))]) (.seq (.drw [0,1,0,4,0,16,48,112,255,511,1023] [(0,fD 95 3 5),(1,lA 96 2 95),(2,fD 97 1 5),(3,lA 98 2 97),(4,mV 99 8),(5,oP 100 (.nilc (.t 99))),(6,lD 101 1 100),(7,oP 102 (.lens (.t 101))),(8,oP 103 (.build [i0,i0,i0,i0,i0,i0,s0] [(0,(1,.c (.int .i64 2))),(1,(2,.t 96)),(3,(2,.t 98)),(5,(1,.t 102))])),(9,nP (.sto 7 (.t 6) (.t 103))),(10,oP 7 (.mv (.c (.bool true))))]) .ret))))))
theorem dg127:Dg Tryz.prog 127 Tryz.f127 ic127 [(.cell 6 7 true),(.t 7)]:=⟨Tryz.func127,by kernel_rfl,by kernel_rfl⟩
theorem c127 (cs:List Conv) (k:Nat) (b:Bool) (p:Pk) (hk:k<cs.length) (hc:CvB (cs.getD k default)) (hp:PkP p):FnP Tryz.prog G 127 1 [.arr 47 10 (cs.map Conv.row)] [.pa 0 k 0,.bool b,.agg [.int .i64 p.kind,.int .i64 p.frm.a,.int .i64 p.frm.p,.int .i64 p.to.a,.int .i64 p.to.p,.int .i64 p.at_,.str p.text]]
 (fun r o=>∃x,x=hear (cs.getD k default) b p∧r=.tup [.agg (Pk.row (x.2.getD .zero)),.bool x.2.isSome]∧o=[.arr 47 10 ((cs.set k x.1).map Conv.row)]):=by
 refine mP dg127 Tryz.ntmps127 ⟨_,_,_,rfl,rfl,rfl⟩ ?_
 have h1:=hp.at_
 have h2:=hp.len
 have h3:=hc.upGot
 have h4:=hc.downGot
 generalize hcc:cs.getD k default=c at *
 have g1:=c157 c.upGot p.at_ p.text (by omega) (by omega) (by omega)
 have g2:=c157 c.downGot p.at_ p.text (by omega) (by omega) (by omega)
 have hcc2:c=cs[k]:=by rw[←hcc];simp[List.getD,hk]
 have hset:∀x:Conv,(cs.set k x).map Conv.row=(cs.map Conv.row).set k (Conv.row x):=fun x=>List.map_set
 have hsame:cs.set k c=cs:=by rw[hcc2];exact List.set_getElem_self hk
 clear hcc2
 have fin:∀l mm (x:Conv×Option Pk),hear c b p=x→getL l 6=.pv 1006 0→getL l 7=.bool x.2.isSome→getH mm 1006=.var 70 (Pk.row (x.2.getD .zero))→getH mm 0=.arr 47 10 ((cs.set k x.1).map Conv.row) →
  retQ [.cell 6 7 true,.t 7] 1 (fun r o=>∃x,x=hear c b p∧r=.tup [.agg (Pk.row (x.2.getD .zero)),.bool x.2.isSome]∧o=[.arr 47 10 ((cs.set k x.1).map Conv.row)]) .ret ⟨getL l,getH mm⟩:=fun l mm x h1 h2 h3 h4 h5=>by
  refine retN (.tup [.agg (Pk.row (x.2.getD .zero)),.bool x.2.isSome]) [.arr 47 10 ((cs.set k x.1).map Conv.row)] [] ?_ ⟨x,h1.symm,rfl,rfl⟩ ?_ (by simp[argH,getN]) (by simp only[go_sem])
  ·simp only[go_sem,h2,h3,h4]
  ·simp only[go_sem,h5]
 have gs:∀R,((cs.map Conv.row).set k R).getD k []=R:=fun R=>by simp[List.getD,hk]
 simp only[ic127,go_sem]
 cases b<;>simp only[go_sem,getD_mp hk,hcc,E.ext_iff']
 all_goals
  with_reducible repeat' (first|refine br ?_ ?_<;>intro h e<;>(try simp only[e,go_sem,getD_mp hk,hcc,gs,E.ext_iff'])<;>clear e|rw[i64w (by omega)]|refine sd ?_<;>try simp only[go_sem,getD_mp hk,hcc,gs,E.ext_iff']|(first|refine cr (c69 ..) ?_|refine cr (g1 ..) ?_|refine cr (g2 ..) ?_)<;>try simp only[go_sem,getD_mp hk,hcc,gs,E.ext_iff']|fail)
 all_goals clear g1 g2
 all_goals clear gs hset hcc
 all_goals have hset:∀x:Conv,(cs.set k x).map Conv.row=(cs.map Conv.row).set k (Conv.row x):=fun x=>List.map_set
 all_goals first
  | (refine fin _ _ (c,none) (by simp[hear, *]) ?_ ?_ ?_ ?_<;>simp only[go_sem,Option.isSome_none,Option.getD_none,Pk.zero,E.zero,hsame];done)
  | (refine fin _ _ ({ c with downAck:=max c.downAck (min p.at_ c.down.length) },none) (by simp[hear, *]) ?_ ?_ ?_ ?_<;>simp only[go_sem,Option.isSome_none,Option.getD_none,Pk.zero,E.zero,hset];done)
  | (refine fin _ _ ({ c with upAck:=max c.upAck (min p.at_ c.up.length) },none) (by simp[hear, *]) ?_ ?_ ?_ ?_<;>simp only[go_sem,Option.isSome_none,Option.getD_none,Pk.zero,E.zero,hset];done)
  | (refine fin _ _ ({ c with upGot:=(behind c.upGot p.at_ p.text).1 },some ⟨2,p.to,p.frm,(behind c.upGot p.at_ p.text).1.length,[]⟩) (by simp[hear, *]) ?_ ?_ ?_ ?_<;>simp only[go_sem,Option.isSome_some,Option.getD_some,hset];done)
  | (refine fin _ _ ({ c with downGot:=(behind c.downGot p.at_ p.text).1 },some ⟨2,p.to,p.frm,(behind c.downGot p.at_ p.text).1.length,[]⟩) (by simp[hear, *]) ?_ ?_ ?_ ?_<;>simp only[go_sem,Option.isSome_some,Option.getD_some,hset];done)
def ic79:IC:=sR [oP 4 (.mv (.c i0))] (.seq (.drw [0,1,3,7,15,0,32,96,224,0,992,2016,4064,8191,16383] [(0,mV 5 0),(1,oP 6 (.nilc (.t 5))),(2,fD 7 1 6),(3,fD 8 0 7),(4,lD 9 1 8),(5,mV 10 0),(6,oP 11 (.nilc (.t 10))),(7,fD 12 0 11),(8,lD 13 1 12),(9,mV 14 1),(10,oP 15 (.iad 10 (.t 13) (.t 14))),(11,fD 16 0 15),(12,lA 17 2 16),(13,oP 18 (.call 125 [.t 9,.t 17])),(14,mV 4 18)]) .ret)
theorem dg79:Dg Tryz.prog 79 Tryz.f79 ic79 [(.t 4)]:=⟨Tryz.func79,by kernel_rfl,by kernel_rfl⟩
theorem c79 (w:M.World) (k:Nat) (hk:k<w.convs.length) (hm:w.door.map.length≤2000000):FnP Tryz.prog G 79 4 [.var 41 [.own 2 w.convs.length,.sl 3 (w.door.map.map Pair.row),.own 1 w.door.flows.length,.own 3 w.nets.length],.arr 181 8 (w.door.flows.map Flw.row),.arr 47 10 (w.convs.map Conv.row),.arr 70 7 (w.nets.map Pk.row)] [.pv 0 0,.int .i64 (k:Int)] (fun r o=>r=.int .i64 (portOf w.door.map (w.convs.getD k default).ins)∧o=[.var 41 [.own 2 w.convs.length,.sl 3 (w.door.map.map Pair.row),.own 1 w.door.flows.length,.own 3 w.nets.length],.arr 181 8 (w.door.flows.map Flw.row),.arr 47 10 (w.convs.map Conv.row),.arr 70 7 (w.nets.map Pk.row)]):=by
 refine mP dg79 Tryz.ntmps79 ⟨_,_,rfl,rfl⟩ ?_
 generalize hc:w.convs.getD k default=c at *
 have f1:=c125 w.door.map c.ins.a c.ins.p hm
 simp only[ic79,go_sem]
 with_reducible repeat' (first|refine br ?_ ?_<;>intro h e<;>(try simp only[e,go_sem,getD_mp hk,hc])<;>clear e|rw[i64w (by omega)]|refine sd ?_<;>try simp only[go_sem,getD_mp hk,hc]|(first|refine cr (f1 ..) ?_)<;>try simp only[go_sem,getD_mp hk,hc]|fail)
 refine retN _ _ [] ?_ ⟨rfl,rfl⟩ ?_ (by simp[argH,getN]) (by simp only[go_sem])
 ·simp only[go_sem]
 ·simp only[go_sem]
def carryA (x:M.World×Option Pk) (r:V) (o:List Hs):Prop:=∃q,r=.tup [.agg (Pk.row q),.bool x.2.isSome]∧(∀q',x.2=some q'→q=q')∧o=[.var 41 [.own 2 x.1.convs.length,.sl 3 (x.1.door.map.map Pair.row),.own 1 x.1.door.flows.length,.own 3 x.1.nets.length],.arr 181 8 (x.1.door.flows.map Flw.row),.arr 47 10 (x.1.convs.map Conv.row),.arr 70 7 (x.1.nets.map Pk.row)]
theorem carryRet {x:M.World×Option Pk} {w:M.World} {o:Option Pk} {l:List (Nat×V)} {mm:List (Nat×Hs)} (q:Pk) (n1 n2 n3:Nat) (hx:x=(w,o)) (hq:∀q',o=some q'→q=q') (h4:getL l 4=.pv 1004 0) (h5:getL l 5=.bool o.isSome) (m4:getH mm 1004=.var 70 (Pk.row q))
 (m0:getH mm 0=.var 41 [.own n2 w.convs.length,.sl 3 (w.door.map.map Pair.row),.own n1 w.door.flows.length,.own n3 w.nets.length])
 (m1:getH mm n1=.arr 181 8 (w.door.flows.map Flw.row)) (m2:getH mm n2=.arr 47 10 (w.convs.map Conv.row)) (m3:getH mm n3=.arr 70 7 (w.nets.map Pk.row))
 (hne:[0,n1,n2,n3].Nodup):retQ [.cell 4 7 true,.t 5] 1 (carryA x) .ret ⟨getL l,getH mm⟩:=by
 subst hx
 refine retN (.tup [.agg (Pk.row q),.bool o.isSome]) [.var 41 [.own 2 w.convs.length,.sl 3 (w.door.map.map Pair.row),.own 1 w.door.flows.length,.own 3 w.nets.length],.arr 181 8 (w.door.flows.map Flw.row),.arr 47 10 (w.convs.map Conv.row),.arr 70 7 (w.nets.map Pk.row)] [(1,n1),(2,n2),(3,n3)] ?_ ⟨q,rfl,hq,rfl⟩ ?_ (by simpa[argH,getN] using hne) (by simp only[go_sem])
 ·simp only[go_sem,h4,h5,m4]
 ·simp only[go_sem,m0,m1,m2,m3]
def ic80:IC:=sR [oP 3 (.box 70 (.t 1)),oP 4 (.alloc 70 [i0,i0,i0,i0,i0,i0,s0]),oP 5 (.mv (.c (.bool false)))] (.seq (sR [fD 9 3 3,lA 10 2 9,oP 11 (.call 69 [.t 10]),mV 12 11,⟨some 13,some (12,false),.fad 1 (.t 3)⟩,⟨some 14,some (12,false),.ld 2 true (.t 13)⟩,⟨some 15,some (12,false),.call 64 [.t 14]⟩,oP 16 (.pick (.t 12) (.c (.bool true)) (.t 15))] (.cond (.t 16) (.seq (.drw [0,1,3,0,15,31,31,127,255] [(0,mV 17 0),(1,oP 18 (.nilc (.t 17))),(2,fD 19 1 18),(3,lA 20 7 3),(4,oP 21 (.call 126 [.t 19,.t 20])),(5,eX 22 21 0),(6,eX 23 21 1),(7,nP (.sto 7 (.t 4) (.t 22))),(8,mV 5 23)]) .ret) .skip)) (.seq (sR [mV 24 0,oP 25 (.nilc (.t 24)),fD 26 0 25,lD 27 1 26,oP 28 (.len (.t 27)),oP 29 (.mv (.c i0))] (.block 0 (.loop (sR [bN 30 .lss 29 28] (.seq (.cond (.t 30) .skip (.exit 0)) (.seq (.block 1 (sR [mV 31 29,mV 6 31] (sR [mV 32 0,oP 33 (.nilc (.t 32)),fD 34 0 33,lD 35 1 34,mV 36 6,oP 37 (.iad 10 (.t 35) (.t 36)),mV 7 37] (.seq (.drw [0,1,0,4,12,28,63,127,255,511,255,1279,3327,7423,16383,32767,65535] [(0,fD 38 3 3),(1,lA 39 2 38),(2,mV 40 7),(3,oP 41 (.nilc (.t 40))),(4,fD 42 0 41),(5,lA 43 2 42),(6,oP 44 (.eqs false [.i,.i] (.t 39) (.t 43))),(7,mV 45 44),(8,⟨some 46,some (45,true),.fad 1 (.t 3)⟩),(9,⟨some 47,some (45,true),.ld 2 true (.t 46)⟩),(10,⟨some 48,some (45,true),.mv (.t 7)⟩),(11,⟨some 49,some (45,true),.nilc (.t 48)⟩),(12,⟨some 50,some (45,true),.fad 2 (.t 49)⟩),(13,⟨some 51,some (45,true),.ld 2 true (.t 50)⟩),(14,⟨some 52,some (45,true),.eqs false [.i,.i] (.t 47) (.t 51)⟩),(15,oP 53 (.pick (.t 45) (.t 52) (.c (.bool false)))),(16,mV 8 53)]) (.seq (.drw [0,1,3,7,3,19,51,115,255,511,1023,2047,4095,8191,16383,32767,65535,131071,32767,32767,819199,2097151,4194303,8388607] [(0,mV 54 8),(1,mV 55 54),(2,⟨some 56,some (55,false),.fad 3 (.t 3)⟩),(3,⟨some 57,some (55,false),.ld 2 true (.t 56)⟩),(4,⟨some 58,some (55,false),.mv (.t 7)⟩),(5,⟨some 59,some (55,false),.nilc (.t 58)⟩),(6,⟨some 60,some (55,false),.fad 2 (.t 59)⟩),(7,⟨some 61,some (55,false),.ld 2 true (.t 60)⟩),(8,⟨some 62,some (55,false),.eqs false [.i,.i] (.t 57) (.t 61)⟩),(9,⟨some 63,some (55,false),.mv (.t 62)⟩),(10,⟨some 64,some (63,true),.fad 1 (.t 3)⟩),(11,⟨some 65,some (63,true),.ld 2 true (.t 64)⟩),(12,⟨some 66,some (63,true),.call 69 [.t 65]⟩),(13,⟨some 67,some (55,false),.pick (.t 63) (.t 66) (.c (.bool false))⟩),(14,⟨some 68,some (55,false),.mv (.t 67)⟩),(15,⟨some 69,some (68,true),.fad 1 (.t 3)⟩),(16,⟨some 70,some (68,true),.fad 1 (.t 69)⟩),(17,⟨some 71,some (68,true),.ld 1 false (.t 70)⟩),(18,⟨some 72,some (68,true),.mv (.t 0)⟩),(19,⟨some 73,some (68,true),.mv (.t 6)⟩),(20,⟨some 74,some (68,true),.call 79 [.t 72,.t 73]⟩),(21,⟨some 75,some (68,true),.bin .eql (.t 71) (.t 74)⟩),(22,⟨some 76,some (55,false),.pick (.t 68) (.t 75) (.c (.bool false))⟩),(23,oP 77 (.pick (.t 55) (.c (.bool true)) (.t 76)))]) (.cond (.t 77) (sR [mV 78 7,mV 79 8,lA 80 7 3,oP 81 (.call 127 [.t 78,.t 79,.t 80]),eX 82 81 0,eX 83 81 1,nP (.sto 7 (.t 4) (.t 82)),mV 5 83] .ret) .skip)))))) (.reg [oP 84 (.bin .add (.t 29) (.c (.int .i64 1))),mV 29 84]))))))) (sR [oP 85 (.build [i0,i0,i0,i0,i0,i0,s0] []),nP (.sto 7 (.t 4) (.t 85)),oP 5 (.mv (.c (.bool false)))] .ret)))
theorem dg80:Dg Tryz.prog 80 Tryz.f80 ic80 [(.cell 4 7 true),(.t 5)]:=⟨Tryz.func80,by kernel_rfl,by kernel_rfl⟩
set_option maxHeartbeats 1000000 in
theorem x80 {X:List (E×E)} (w:M.World) (p:Pk) (hw:WX X w) (hp:PkP p):FnP Tryz.prog G 80 1 [.var 41 [.own 2 w.convs.length,.sl 3 (w.door.map.map Pair.row),.own 1 w.door.flows.length,.own 3 w.nets.length],.arr 181 8 (w.door.flows.map Flw.row),.arr 47 10 (w.convs.map Conv.row),.arr 70 7 (w.nets.map Pk.row)] [.pv 0 0,.agg [.int .i64 p.kind,.int .i64 p.frm.a,.int .i64 p.frm.p,.int .i64 p.to.a,.int .i64 p.to.p,.int .i64 p.at_,.str p.text]] (carryA (carry w p)):=by
 refine mP dg80 Tryz.ntmps80 ⟨_,_,(carry w p).2.getD .zero,rfl,fun q' h=>by rw[h];rfl,rfl⟩ ?_
 have hml:=(mapOk_ports (doorOk_iff.1 hw.door).1).2
 have hcl:=hw.cl
 have hdoor:(p.to.door=true∨p.frm.inside=true)→carry w p=({ w with door:=(dPass w.door p).1 },(dPass w.door p).2):=fun h=>carry_door (by simpa using h)
 simp only[ic80,go_sem]
 with_reducible repeat' (first|refine br ?_ ?_<;>intro h e<;>(try simp only[e,go_sem])<;>clear e|rw[i64w (by omega)]|refine sd ?_<;>try simp only[go_sem]|(first|refine cr (c69 ..) ?_|refine cr (c64 ..) ?_)<;>try simp only[go_sem]|fail)
 ·refine callN (w126 w w.door p hw.door hp) [0,1,2,3] [] true 21 4 (by simp only[go_sem];first|done|simp) (by simp only[go_sem];first|done|simp) (by simp) (by simp) (by simp) ?_ ?_ ?_
  ·rintro res out ⟨q,rfl,hq,rfl⟩
   exact⟨by simp,by simp,.inl rfl,fun i hi=>by obtain rfl:i=0:=(by omega);simp[chH,stepOk]⟩
  ·intro i hi
   rcases(show i=0∨i=1∨i=2∨i=3 by omega) with rfl|rfl|rfl|rfl<;>simp only[go_sem]
  rintro res out ⟨q,rfl,hq,rfl⟩
  simp only[go_sem]
  with_reducible repeat' (first|refine br ?_ ?_<;>intro h e<;>(try simp only[e,go_sem])<;>clear e|rw[i64w (by omega)]|refine sd ?_<;>try simp only[go_sem]|fail)
  refine carryRet (w:={ w with door:=(dPass w.door p).1 }) (o:=(dPass w.door p).2) q 102101 102102 102103 (hdoor (.inl (by assumption))) hq ?_ ?_ ?_ ?_ ?_ ?_ ?_ (by decide)<;>simp only[go_sem]
 ·refine callN (w126 w w.door p hw.door hp) [0,1,2,3] [] true 21 4 (by simp only[go_sem];first|done|simp) (by simp only[go_sem];first|done|simp) (by simp) (by simp) (by simp) ?_ ?_ ?_
  ·rintro res out ⟨q,rfl,hq,rfl⟩
   exact⟨by simp,by simp,.inl rfl,fun i hi=>by obtain rfl:i=0:=(by omega);simp[chH,stepOk]⟩
  ·intro i hi
   rcases(show i=0∨i=1∨i=2∨i=3 by omega) with rfl|rfl|rfl|rfl<;>simp only[go_sem]
  rintro res out ⟨q,rfl,hq,rfl⟩
  simp only[go_sem]
  with_reducible repeat' (first|refine br ?_ ?_<;>intro h e<;>(try simp only[e,go_sem])<;>clear e|rw[i64w (by omega)]|refine sd ?_<;>try simp only[go_sem]|fail)
  refine carryRet (w:={ w with door:=(dPass w.door p).1 }) (o:=(dPass w.door p).2) q 102101 102102 102103 (hdoor (.inr (by assumption))) hq ?_ ?_ ?_ ?_ ?_ ?_ ?_ (by decide)<;>simp only[go_sem]
 rw[carry_host (by simp[*])]
 clear hdoor
 refine loopN (fun k:Nat=>⟨getL [(0,.pv 0 0),(3,.pv 1003 0),(4,.pv 1004 0),(28,.int .i64 w.convs.length),(29,.int .i64 (k:Int))],getH [(0,.var 41 [.own 2 w.convs.length,.sl 3 (w.door.map.map Pair.row),.own 1 w.door.flows.length,.own 3 w.nets.length]),(1,.arr 181 8 (w.door.flows.map Flw.row)),(2,.arr 47 10 (w.convs.map Conv.row)),(3,.arr 70 7 (w.nets.map Pk.row)),(1003,.var 70 [.int .i64 p.kind,.int .i64 p.frm.a,.int .i64 p.frm.p,.int .i64 p.to.a,.int .i64 p.to.p,.int .i64 p.at_,.str p.text]),(1004,.var 70 [.int .i64 0,.int .i64 0,.int .i64 0,.int .i64 0,.int .i64 0,.int .i64 0,.str []])]⟩)
  (fun k=>w.convs.length - k) (fun k=>k≤w.convs.length∧(w.convs.take k).any (matchC w p)=false) 0 (leQ []) ⟨Nat.zero_le _,by simp⟩ ?_
 intro k ⟨hk,ha⟩
 simp only[go_sem]
 by_cases h:(k:Int)<w.convs.length
 ·have hil:k<w.convs.length:=by omega
  have hg:w.convs.getD k default=w.convs[k]:=by simp[List.getD,hil]
  have hat:=hostR_at (w:=w) (p:=p) hil ha
  have hstep:=any_step hil ha
  have hB:=convOk_B (hw.cv _ (List.getElem_mem hil))
  rw[matchC_e] at hat hstep
  have fp:=c79 w k hil (by omega)
  have ft:=c127 w.convs k true p hil (by rw[hg];exact hB) hp
  have ff:=c127 w.convs k false p hil (by rw[hg];exact hB) hp
  rw[hg] at fp ft ff
  simp only[eq_true h,go_sem]
  generalize hc:w.convs[k]=c at *
  generalize hinw:(decide (p.to=c.ins)&&decide (p.frm=c.out))=inw at *
  with_reducible repeat' (first|refine br ?_ ?_<;>intro h e<;>(try simp only[e,go_sem,getD_mp hil,hg,E.ext_iff'])<;>clear e|rw[i64w (by omega)]|refine sd ?_<;>try simp only[go_sem,getD_mp hil,hg,E.ext_iff']|(first|refine cr (c69 ..) ?_)<;>try simp only[go_sem,getD_mp hil,hg,E.ext_iff']|fail)
  all_goals try(
   refine callN fp [0,1,2,3] [] true 74 4 (by simp only[go_sem];first|done|simp) (by simp only[go_sem];first|done|simp) (by simp) (by simp) (by simp) ?_ ?_ ?_
   ·rintro _ _ ⟨rfl,rfl⟩
    exact⟨by simp,by simp,.inl rfl,fun i hi=>by rcases(show i=0∨i=1∨i=2∨i=3 by omega) with rfl|rfl|rfl|rfl<;>simp[chH,stepOk]⟩
   ·intro i hi
    rcases(show i=0∨i=1∨i=2∨i=3 by omega) with rfl|rfl|rfl|rfl<;>simp only[go_sem]
   rintro _ _ ⟨rfl,rfl⟩
   simp only[go_sem]
   with_reducible repeat' (first|refine br ?_ ?_<;>intro h e<;>(try simp only[e,go_sem,getD_mp hil,hg,E.ext_iff'])<;>clear e|rw[i64w (by omega)]|refine sd ?_<;>try simp only[go_sem,getD_mp hil,hg,E.ext_iff']|(first|refine cr (c69 ..) ?_)<;>try simp only[go_sem,getD_mp hil,hg,E.ext_iff']|fail)
   )
  all_goals clear fp
  all_goals first
   | (refine⟨k+1,by omega,⟨by omega,hstep ?_⟩,(leQ [])⟩
      clear ft ff
      simp_all;done)
   | (refine callN ft [2] [] true 81 1 (by simp only[go_sem];first|done|simp) (by simp only[go_sem];first|done|simp) (by simp) (by simp) (by simp) ?_ ?_ ?_
      ·rintro _ _ ⟨x,rfl,rfl,rfl⟩
       exact⟨by simp,by simp,.inl rfl,fun i hi=>by obtain rfl:i=0:=(by omega);simp[chH,stepOk]⟩
      ·intro i hi;obtain rfl:i=0:=(by omega);simp only[go_sem]
      rintro _ _ ⟨x,hx,rfl,rfl⟩
      clear ft ff
      simp only[go_sem]
      with_reducible repeat' (first|refine br ?_ ?_<;>intro h e<;>(try simp only[e,go_sem])<;>clear e|rw[i64w (by omega)]|refine sd ?_<;>try simp only[go_sem]|fail)
      have hi:inw=true:=by clear hx;simp_all
      have hh:=hat (by clear hx;simp_all)
      rw[hi,←hx] at hh
      refine carryRet (w:={ w with convs:=w.convs.set k x.1 }) (o:=x.2) (x.2.getD .zero) 1 2 3 hh (fun q' h=>by rw[h];rfl) ?_ ?_ ?_ ?_ ?_ ?_ ?_ (by decide)
      all_goals simp only[go_sem,List.length_set]
      done)
   | (refine callN ff [2] [] true 81 1 (by simp only[go_sem];first|done|simp) (by simp only[go_sem];first|done|simp) (by simp) (by simp) (by simp) ?_ ?_ ?_
      ·rintro _ _ ⟨x,rfl,rfl,rfl⟩
       exact⟨by simp,by simp,.inl rfl,fun i hi=>by obtain rfl:i=0:=(by omega);simp[chH,stepOk]⟩
      ·intro i hi;obtain rfl:i=0:=(by omega);simp only[go_sem]
      rintro _ _ ⟨x,hx,rfl,rfl⟩
      clear ft ff
      simp only[go_sem]
      with_reducible repeat' (first|refine br ?_ ?_<;>intro h e<;>(try simp only[e,go_sem])<;>clear e|rw[i64w (by omega)]|refine sd ?_<;>try simp only[go_sem]|fail)
      have hi:inw=false:=by clear hx;simp_all
      have hh:=hat (by clear hx;simp_all)
      rw[hi,←hx] at hh
      refine carryRet (w:={ w with convs:=w.convs.set k x.1 }) (o:=x.2) (x.2.getD .zero) 1 2 3 hh (fun q' h=>by rw[h];rfl) ?_ ?_ ?_ ?_ ?_ ?_ ?_ (by decide)
      all_goals simp only[go_sem,List.length_set]
      done)
 ·simp only[eq_false h,go_sem]
  have:k=w.convs.length:=by omega
  subst this
  rw[List.take_length] at ha
  rw[hostR_no ha]
  refine carryRet .zero 1 2 3 rfl (fun q' h=>by cases h) ?_ ?_ ?_ ?_ ?_ ?_ ?_ (by decide)<;>simp only[go_sem,Option.isSome_none,Pk.zero,E.zero]
theorem c80 (w:M.World) (p:Pk) (hw:WI w) (hp:PkP p):FnP Tryz.prog G 80 1 [.var 41 [.own 2 w.convs.length,.sl 3 (w.door.map.map Pair.row),.own 1 w.door.flows.length,.own 3 w.nets.length],.arr 181 8 (w.door.flows.map Flw.row),.arr 47 10 (w.convs.map Conv.row),.arr 70 7 (w.nets.map Pk.row)] [.pv 0 0,.agg [.int .i64 p.kind,.int .i64 p.frm.a,.int .i64 p.frm.p,.int .i64 p.to.a,.int .i64 p.to.p,.int .i64 p.at_,.str p.text]] (carryA (carry w p)) :=
 x80 w p hw.x hp
end Go.Proofs.YtiegngjdjheebaaGreatDoor.W
namespace Go.Proofs.YtiegngjdjheebaaGreatDoor.W
open Go Go.RowKit Go.Proofs Go.Proofs.YtiegngjdjheebaaGreatDoor.VL
theorem run_clear_one {P:Program} (w:World) (t e ty:TypeId) (z:Value) (ht:P.underlying t=some (.slice e)) (hv:∀w,(zeroValue e).run P w=.ok z w) (h1:∀u,u∈z.cells.toList→u.oneCell'=true) (b o c:Nat)
 (hc:∀j,j<z.cells.toList.length→(w.cell? ⟨b,o+j,none⟩).isSome=true) (hf:∀j,j<z.cells.toList.length→w.frozen? ⟨b,o+j,none⟩=false) :
 (Builtin.clear_ #[t] ty #[.slice (some ⟨b,o,none⟩) 1 c]).run P w=.ok (.tuple #[]) (w.setCells b o z.cells.toList):=by
 have hzc:(Builtin.zeroCells z.cells 1).toList=z.cells.toList:=by
  simp only[Builtin.zeroCells]
  apply List.ext_getElem
  ·simp
  ·intro i h1 h2
   simp at h1 h2 ⊢
   have e:i % z.cells.size=i:=Nat.mod_eq_of_lt h2
   simp[e,h2]
 have hst:=run_storeCells_cells (P:=P) b o z.cells.toList 0 w (by simpa using hc) (by simpa using hf) h1
 simp only[Nat.add_zero] at hst
 simp[Builtin.clear_,run_underlying ht,hv,hzc,hst]
set_option maxRecDepth 100000
set_option maxHeartbeats 4000000
theorem m128 (blk off cap n k j:Nat) (us:List Value) (w:World) (hl:us.length=n*7) (hcl:∀(t:Nat) u,us[t]?=some u→w.cell? ⟨blk,off+t,none⟩=some u) (hone:∀u,u∈us→u.oneCell'=true)
 (hfz:∀t,t<n*7→w.frozen? ⟨blk,off+t,none⟩=false) (hcap:n≤cap) (hk:k<n) (hj:j=k+1) :
 Calls Tryz.prog 128 #[.slice (some ⟨blk,off,none⟩) n cap,.int .i64 k,.int .i64 (j:Int)] w fun e w'=>e=.returned (.slice (some ⟨blk,off,none⟩) (n - 1) cap) ∧
  w'=((w.drew.setCells blk (off+k*7) (us.drop (j*7))).setCells blk (off+(n - 1)*7) [.int .i64 0,.int .i64 0,.int .i64 0,.int .i64 0,.int .i64 0,.int .i64 0,.string ⟨#[]⟩]):=by
 have t27:Tryz.prog.underlying 39=some (.slice 70):=by kernel_rfl
 obtain⟨i0,z0,hi,hz,hs,hzs,hb⟩:=infoP (P:=Tryz.prog) (t:=70) (sz:=7) (by kernel_rfl)
 have hlt:k<j:=by omega
 obtain⟨news,hnews⟩:∃news,news=us.drop (j*7):=⟨_,rfl⟩
 have hlen:news.length=(n - j)*7:=by rw[hnews];simp;omega
 obtain⟨A,hA,hsrc⟩:∃A:Addr,(if cap=j then some (⟨blk,off,none⟩:Addr) else some ⟨blk,off+j*7,none⟩)=some A∧Hid (∀(t:Nat) u,news[t]?=some u→w.drew.cell? (A.add t)=some u):=by
  by_cases h:cap=j
  ·refine⟨⟨blk,off,none⟩,by simp[h],fun t u hu=>?_⟩
   have h0:news.length=0:=by rw[hlen];omega
   rw[List.length_eq_zero_iff.1 h0] at hu
   simp at hu
  ·refine⟨⟨blk,off+j*7,none⟩,by simp[h],fun t u hu=>?_⟩
   rw[hnews,List.getElem?_drop] at hu
   rw[Addr.add_lit,Nat.add_assoc]
   exact hcl _ u hu
 have s1:Hid (news.length=(n - j)*7):=hlen
 have s2:Hid (∀u∈news,u.oneCell'=true):=fun u hu=>hone u (by rw[hnews] at hu;exact List.mem_of_mem_drop hu)
 have s3:Hid (∀t,t<news.length→(w.drew.cell? ⟨blk,off+k*7+t,none⟩).isSome=true∧w.drew.frozen? ⟨blk,off+k*7+t,none⟩=false):=by
  intro t ht
  rw[hlen] at ht
  have hlt:k*7+t<us.length:=by rw[hl];omega
  rw[Nat.add_assoc]
  refine⟨?_,hfz _ (by omega)⟩
  show(w.cell? _).isSome=true
  rw[hcl (k*7+t) _ (List.getElem?_eq_getElem hlt)]
  rfl
 obtain⟨W1,hW1⟩:∃W1,W1=w.drew.setCells blk (off+k*7) news:=⟨_,rfl⟩
 have hz':∀w,(zeroValue 70).run Tryz.prog w=.ok (.agg #[.int .i64 0,.int .i64 0,.int .i64 0,.int .i64 0,.int .i64 0,.int .i64 0,.string ⟨#[]⟩]) w:=fun w=>by kernel_rfl
 have hcl2:∀ty,(Builtin.clear_ #[39] ty #[.slice (some ⟨blk,off+(k+(n - j))*7,none⟩) (n - (k+(n - j))) (cap - (k+(n - j)))]).run Tryz.prog W1=.ok (.tuple #[]) (W1.setCells blk (off+(k+(n - j))*7) [.int .i64 0,.int .i64 0,.int .i64 0,.int .i64 0,.int .i64 0,.int .i64 0,.string ⟨#[]⟩]):=fun ty=>by
  rw[show n - (k+(n - j))=1 by omega]
  refine run_clear_one W1 _ _ ty _ t27 hz' (by simp[Value.cells,Value.oneCell']) blk _ _ (fun j' hj'=>?_) (fun j' hj'=>?_)
  ·have hlt:(n - 1)*7+j'<us.length:=by rw[hl];simp[Value.cells] at hj';omega
   have e:off+(k+(n - j))*7+j'=off+((n - 1)*7+j'):=by rw[show k+(n - j)=n - 1 by omega];omega
   rw[e,hW1,World.cell?_setCells_out _ _ _ _ _ (fun _ _=>.inr (by rw[hlen];simp only;omega))]
   show(w.cell? _).isSome=true
   rw[hcl _ _ (List.getElem?_eq_getElem hlt)]
   rfl
  ·have e:off+(k+(n - j))*7+j'=off+((n - 1)*7+j'):=by rw[show k+(n - j)=n - 1 by omega];omega
   rw[e,hW1,World.frozen?_setCells]
   exact hfz _ (by simp[Value.cells] at hj';omega)
 have hW:Hid (W1=w.drew.setCells blk (off+k*7) news):=hW1
 have hkc:k≤cap:=by omega
 have hkc1:j≤cap:=by omega
 have hjn:j≤n:=by omega
 have hx:Hid (j=k+1∧news=us.drop (j*7)):=⟨hj,hnews⟩
 clear hW1 hnews hlen hcl hfz hone hj
 go_enter Tryz.func128,Tryz.ntmps128
 go_wp2_with fail
 go_region_law (refine step_append_room rfl (.tmp 22) (.tmp 25) 39 rfl 70 i0 7 t27 hi hs blk off k cap (by simp[Act.eval,Act.put]) A (n - j) (cap - j) news (by simp[Act.eval,Act.put,hA]) s1.out hsrc.out s2.out (by omega) s3.out ?_;rw[←hW.out])
 go_wp2
 go_ret
 have e2:k+(n - j)=n - 1:=by have:=hx.out.1;omega
 refine⟨by simp[e2],by rw[hW.out,hx.out.2,e2]⟩
theorem map_eraseIdx {α β:Type} (f:α→β):∀(l:List α) (k:Nat),(l.map f).eraseIdx k=(l.eraseIdx k).map f
 | [],_=>rfl
 | _::_,0=>rfl
 | a::l,k+1=>by simp[map_eraseIdx f l k]
def DelM (P:Program) (f:FuncId) (sz:Nat) (zr:List Value):Prop:=∀(blk off cap n k j:Nat) (us:List Value) (w:World),us.length=n*sz→(∀(t:Nat) u,us[t]?=some u→w.cell? ⟨blk,off+t,none⟩=some u)→(∀u,u∈us→u.oneCell'=true) →
 (∀t,t<n*sz→w.frozen? ⟨blk,off+t,none⟩=false)→n≤cap→k<n→j=k+1 →
 Calls P f #[.slice (some ⟨blk,off,none⟩) n cap,.int .i64 k,.int .i64 (j:Int)] w fun e w'=>e=.returned (.slice (some ⟨blk,off,none⟩) (n - 1) cap)∧w'=((w.drew.setCells blk (off+k*sz) (us.drop (j*sz))).setCells blk (off+(n - 1)*sz) zr)
theorem us_three {w:World} {O:Nat→Prop} {ρ:Nat→VL.Loc} {h:Nat→Hs} {a b c:V} {us:List Value} (hargs:DenArgs w O ρ h [a,b,c] us):∃x y z,us=[x,y,z]∧Den w O ρ h a x∧Den w O ρ h b y∧Den w O ρ h c z:=by
 obtain⟨h1,h2⟩:=hargs
 match us,h1 with
 | [x,y,z],_=>exact⟨x,y,z,rfl,h2 0 _ _ rfl rfl,h2 1 _ _ rfl rfl,h2 2 _ _ rfl rfl⟩
set_option maxHeartbeats 400000
theorem deleteOwn {P:Program} {G:Glob} {f:FuncId} (hn:entr P f=true) {sz:Nat} {zr:List Value} (h:DelM P f sz zr) (hzr:zr.length=sz) (ty:Nat) (rows:List (List V)) (n k:Nat) (hrn:rows.length=n) (hk:k<n) :
 FnP P G f 0 [.arr ty sz rows] [.own 0 n,.int .i64 (k:Int),.int .i64 ((k:Int)+1)] (fun r o=>r=.own 0 (n - 1)∧o=[.arr ty sz (rows.eraseIdx k)]) where
 en:=hn
 ne:=⟨_,_,rfl,rfl⟩
 run:=fun W ρ ext us0 hg hlt hno hng r hargs=>by
  obtain⟨u,u1,u2,rfl,hd,hd1,hd2⟩:=us_three hargs
  have e1:=inv_int hd1
  have e2:=inv_int hd2
  subst e1 e2
  have h0:∀R,chH [Hs.arr ty sz R] 0=.arr ty sz R:=fun _=>rfl
  have h1:∀R c,c≠0→chH [Hs.arr ty sz R] c=.fresh:=fun R c hc=>by
   match c,hc with
   | c+1,_=>simp[chH]
  have hl:∀R c,(chH [Hs.arr ty sz R] c).live=true→c=0:=fun R c hc=>by
   by_cases h':c=0
   ·exact h'
   ·rw[h1 R c h'] at hc;cases hc
  have hl0:∀R,(chH [Hs.arr ty sz R] 0).live=true:=fun R=>rfl
  have hd:u=(ρ 0).sl n:=by
   simp only[Den,Den2,Den1,Den0,h0] at hd
   exact hd
  subst hd
  have hch:=r.chunk 0
  rw[h0] at hch
  rcases hch with⟨_,e,_⟩|⟨hnil,cs,hcs,hsz,hcap,hrl,hrows⟩
  ·rw[e] at hrn;simp at hrn;omega
  have hlt0:(ρ 0).blk<W.heap.size:=lt_of_get hcs
  have hown:owns ⟨W,blocks ρ (chH [.arr ty sz rows]),ext,0,ρ⟩ ρ (chH [.arr ty sz rows]) (ρ 0).blk:=.inr ⟨0,hl0 _,hnil,rfl⟩
  obtain⟨us,hu1,hu2,hu3,hu4⟩:=rows_flat (w:=W) (rows:=rows) (sz:=sz) (blk:=(ρ 0).blk) (off:=(ρ 0).off) hrl (fun i x j y hx hy=>by
   obtain⟨z,hz1,hz2⟩:=hrows i x j y hx hy
   exact⟨z,cell_at _ _ _ _ _ _ _ hcs hz1,hz2⟩)
  have hsl:(ρ 0).sl n=.slice (some ⟨(ρ 0).blk,(ρ 0).off,none⟩) n (ρ 0).cap:=by simp[VL.Loc.sl,VL.Loc.addr,hnil]
  rw[hrn] at hu1
  have hcell:∀(t:Nat) u,us[t]?=some u→W.cell? ⟨(ρ 0).blk,(ρ 0).off+t,none⟩=some u:=fun t u hu=>by
   have:=hu2 t u hu
   rwa [Addr.add_lit] at this
  have run:=h (ρ 0).blk (ρ 0).off (ρ 0).cap n k (k+1) us W hu1 hcell hu3 (fun t ht=>by simp[World.frozen?,hcs]) (by omega) hk rfl
  rw[hsl]
  have ecast:((k+1:Nat):Int)=(k:Int)+1:=by omega
  rw[ecast] at run
  refine run.mono fun e w' ⟨he,hw⟩=>?_
  have hn1:(n - 1)*sz+sz=n*sz:=by rw[←Nat.succ_mul];congr 1;omega
  have hk1:(k+1)*sz=k*sz+sz:=Nat.succ_mul k sz
  have hkn:(k+1)*sz≤n*sz:=Nat.mul_le_mul_right _ hk
  have hcapn:n*sz≤(ρ 0).cap*sz:=Nat.mul_le_mul_right _ (by omega)
  have hdl:(us.drop ((k+1)*sz)).length=n*sz - (k+1)*sz:=by simp[hu1]
  obtain⟨a1,a2,a3,a4,a5⟩:=setCells_frame (ρ 0).blk (us.drop ((k+1)*sz)) ((ρ 0).off+k*sz) W.drew
  obtain⟨b1,b2,b3,b4,b5⟩:=setCells_frame (ρ 0).blk zr ((ρ 0).off+(n - 1)*sz) (W.drew.setCells (ρ 0).blk ((ρ 0).off+k*sz) (us.drop ((k+1)*sz)))
  obtain⟨c1,m1,m2,m3⟩:=setCells_block (ρ 0).blk ty (0,0) (us.drop ((k+1)*sz)) ((ρ 0).off+k*sz) W.drew cs hcs (by rw[hdl];omega)
  obtain⟨c2,n1,n2,n3⟩:=setCells_block (ρ 0).blk ty (0,0) zr ((ρ 0).off+(n - 1)*sz) _ c1 m1 (by rw[hzr,m2];omega)
  rw[←hw] at b1 b2 b3 b4 b5 n1
  have bel:∀b,b≠(ρ 0).blk→w'.heap[b]?=W.heap[b]?:=fun b hb=>(b5 b hb).trans (a5 b hb)
  have hsize:w'.heap.size=W.heap.size:=b4.trans a4
  refine⟨_,_,_,ρ,he,⟨rfl,rfl⟩,⟨(b1.trans a1).trans r.os,(b2.trans a2).trans r.tape,(b3.trans a3).trans r.output,by rw[hsize];exact r.grow,fun b hb1 hb2=>(bel b fun hx=>hb2 ⟨0,hl0 _,by rw[hx];exact⟨hnil,rfl⟩⟩).trans (r.keep b hb1 hb2),fun c=>?_,fun c hc hnl=>?_,fun c c' hc hc' _ _ _=>(hl _ c hc).trans (hl _ c' hc').symm,fun i hi=>absurd hi (Nat.not_lt_zero _)⟩, ?_⟩
  ·by_cases hc:c=0
   ·subst hc
    rw[h0]
    refine .inr ⟨hnil,c2,n1,by rw[n2,m2];exact hsz,by rw[List.length_eraseIdx];split<;>omega,fun x hx=>hrl x (List.mem_of_mem_eraseIdx hx),fun i x j y hx hy=>?_⟩
    have hjs:j<sz:=by
     have:=hrl x (List.mem_of_mem_eraseIdx (List.mem_of_getElem? hx))
     have h2:=(List.getElem?_eq_some_iff.1 hy).1
     omega
    have him:i<n - 1:=by
     have:=(List.getElem?_eq_some_iff.1 hx).1
     rw[List.length_eraseIdx] at this
     split at this<;>omega
    have him2:(i+1)*sz≤(n - 1)*sz:=Nat.mul_le_mul_right _ him
    have hi1:(i+1)*sz=i*sz+sz:=Nat.succ_mul i sz
    have tail:∀q z,us[q*sz+j]?=some z→Imm W (owns ⟨W,blocks ρ (chH [.arr ty sz rows]),ext,0,ρ⟩ ρ (chH [.arr ty sz rows])) y z→Imm w' (owns ⟨W,blocks ρ (chH [.arr ty sz rows]),ext,0,ρ⟩ ρ (chH [.arr ty sz (rows.eraseIdx k)])) y z:=fun q z _ hz=>by
     refine hz.mono (Nat.le_of_eq hsize.symm) (fun b hb1 hb2=>bel b fun hx=>hb2 (hx▸hown)) fun b hb1 ho=>?_
     rcases ho with ho|⟨c,hc,hnl,hb⟩
     ·exact .inl ho
     ·obtain rfl:=hl _ c hc
      exact .inr ⟨0,hl0 _,hnl,hb⟩
    rw[n3,if_neg (by omega),m3]
    rw[List.getElem?_eraseIdx] at hx
    by_cases hik:i<k
    ·rw[if_pos hik] at hx
     have hi2:(i+1)*sz≤k*sz:=Nat.mul_le_mul_right _ hik
     obtain⟨z,hz1,hz2⟩:=hu4 i x j y hx hy
     refine⟨z, ?_,tail i z hz1 hz2⟩
     rw[if_neg (by omega)]
     have:=hcell _ _ hz1
     simpa[World.cell?,hcs] using this
    ·rw[if_neg hik] at hx
     have hi2:k*sz≤i*sz:=Nat.mul_le_mul_right _ (by omega)
     obtain⟨z,hz1,hz2⟩:=hu4 (i+1) x j y hx hy
     refine⟨z, ?_,tail (i+1) z hz1 hz2⟩
     rw[if_pos (by rw[hdl];omega),List.getElem?_drop]
     rw[←hz1]
     congr 1
     omega
   ·rw[h1 _ c hc];trivial
  ·obtain rfl:=hl _ c hc
   exact r.home 0 (hl0 _) hnl
  ·simp only[Den,Den2,Den1,Den0,h0]
   exact(by simp[VL.Loc.sl,VL.Loc.addr,hnil])
theorem e128:entr Tryz.prog 128=true:=by kernel_rfl
theorem o128 (ps:List M.Pk) (k:Nat) (hk:k<ps.length):FnP Tryz.prog G 128 0 [.arr 70 7 (ps.map M.Pk.row)] [.own 0 ps.length,.int .i64 (k:Int),.int .i64 ((k:Int)+1)] (fun r o=>r=.own 0 (ps.length - 1)∧o=[.arr 70 7 ((ps.eraseIdx k).map M.Pk.row)]):=by
 have:=deleteOwn (G:=G) e128 m128 rfl 70 (ps.map M.Pk.row) ps.length k (by simp) hk
 rw[map_eraseIdx] at this
 exact this
end Go.Proofs.YtiegngjdjheebaaGreatDoor.W
namespace Go.Proofs.YtiegngjdjheebaaGreatDoor.W
open Go Go.RowKit Go.Proofs Go.Proofs.YtiegngjdjheebaaGreatDoor.VL Go.Proofs.YtiegngjdjheebaaGreatDoor.M
attribute [local congr] optK_congr guardK_congr condK_congr runT_congr runD_congr wpI_congr CallV_congr LoopI_congr pureK_congr effK_congr calK_congr stepV_congr doV_congr exN_congr exB_congr retF_congr retQ_congr gK_congr condW_congr ldK_congr stoK_congr
attribute [local go_sem] argL_cons argL_nil argH_nil argH_cons chH_getH wpI_seq wpI_reg wpI_drw wpI_ret cond_k condW_t condW_f wpI_skip wpI_block wpI_exit wpI_loop exN_n exN_r exN_e exB_n exB_r exB_h exB_m runT_k kT_e runT_nil runD_k kD_e runD_nil step_u step_k gK_t gK_f do_mv do_bino bo_add bo_sub bo_mul bo_subu bo_quo bo_rem bo_xor bo_eql bo_neq bo_lss bo_leq bo_gtr bo_geq bo_cat bo_eqs bo_nes do_pick do_call do_cal calK_f do_box do_alloc do_ldk ldK_s do_stok stoK_s do_fad do_nilc do_not do_neg do_len do_lens do_ext do_eqs do_beq do_isn do_cvi do_sls do_idx do_mn do_mx do_build do_mkf do_s2b do_b2s do_slv do_iad do_bsl do_mks do_app do_aps apsG_s ev_t ev_c app_some app_none
attribute [local go_sem] List.nil_append List.cons_append List.append_nil getL_hit getL_miss getH_nil getH_hit getH_miss nm_eq ne_eq Nat.reduceEqDiff not_false_eq_true Nat.reduceAdd Nat.add_zero Nat.zero_add if_true if_false ite_true ite_false pureK_s effK_s optK_s gdV_t gdV_f gdV_s pick_b ge_iff_le gt_iff_lt cond_true cond_false fresh_k cells_agg cells_int cells_bool cells_str cells_own cells_sl cells_nils ld_pv ld_pa ld_ip ldVar_t ldVar_f ldArr_t ldArr_f ldRow_t ldRow_f ldA_s ld1_s fad_pv fad_pa fad_ip nilc_pv nilc_pa nilc_ip not_b neg_i cvi_i ext_t retF_n retF_r
attribute [local go_sem] resV_k rvs_nil rvs_t rvs_c fstO_s consO_s resK_s resL_1 resL_2 resL_3 resL_4  Option.some.injEq List.map_cons List.map_nil List.all_cons List.all_nil Bool.and_true Bool.and_self Bool.not_true Bool.not_false Option.map_some Option.map_none sls_s slsG_s loV_n loV_i hiV_n hiV_i idx_s mn_i mx_i s2b_s b2s_s bytO_s bytes_nil bytes_cons conB_s slv_sl slv_own slv_nils slvG_s slvN_s slvO_s iad_sl iadG_map take_map drop_map List.length_map iad_own iad_view iadO_a iadW_a mks_i rowO_nils rowO_sl rowO_own rowA_a eq_self appG_nils appG_own appO_a guardP_T mapA_s bld_nil mkf_nil bldF_e fill_nil fill_cons mkf_e lens_s len_nils len_sl len_own len_view isn_nile isn_erre List.getElem?_cons_zero List.getElem?_cons_succ List.length_cons List.length_nil decide_true decide_false Int.toNat_natCast Int.cast_ofNat_Int Int.reduceLT Int.reduceLE Int.reduceEq Int.reduceAdd Int.reduceSub Int.reduceMul Int.reduceNeg Int.reduceToNat List.getD_cons_zero List.getD_cons_succ not_true_eq_false not_false_eq_true Bool.false_eq_true Bool.true_eq_false reduceCtorEq
attribute [local go_sem] E.row Pc.row Pair.row Part.row Strm.row Flw.row Pk.row Door.row Conv.row World.row Ev.row rdV E.eta Pc.eta Pair.eta Part.eta Strm.eta Pk.eta Flw.eta Conv.eta Door.eta World.eta Ev.eta
attribute [local go_sem] sub_ok st_pv st_pa stVar_v stArr_a Nat.le_refl List.drop_zero List.drop_succ_cons List.take_succ_cons List.take_zero setR Nat.reduceLeDiff
attribute [local go_sem] wk_bot wk2_bot wk1_bot wk_undef wk_tup_e wk2_agg_e wk_agg_e wk1_fn_e wk2_fn_e wk_fn_e wkl_nil wkl_cons wkh_var_e wkh_arr_e wkh_fresh_e wkh_dead_v wkh_dead_a wkh_dead_d wk0_undef wk0_int wk0_bool wk0_str wk0_nils wk0_nils_sl wk0_nilp wk0_nile wk0_erre wk0_sl wk0_iptr wk0_own wk0_view wk0_pv wk0_pa fzA_a fzW_a fzP_v wk0_own_sl wk0_view_sl wk0_pv_iptr WkS_nil WkS_cons WkN_nil WkN_cons nonB_nil nonB_cons getN_nil getN_hit getN_miss pinOk_0 pinOk_s and_true true_and and_self
attribute [local go_sem] bot_int one_int unt_int clo_int bot_bool one_bool unt_bool clo_bool bot_str one_str unt_str clo_str bot_nils one_nils unt_nils clo_nils bot_nilp one_nilp unt_nilp clo_nilp bot_nile one_nile unt_nile clo_nile bot_erre one_erre unt_erre clo_erre bot_raw one_raw unt_raw clo_raw bot_sl one_sl unt_sl clo_sl bot_own one_own unt_own clo_own bot_view one_view unt_view clo_view bot_pv one_pv unt_pv clo_pv bot_pa one_pa unt_pa clo_pa bot_iptr one_iptr unt_iptr clo_iptr unt_agg unt_fn one_fn
attribute [local go_sem] rn_tup rn_agg rn2_agg rn_fn rn2_fn rnfn1 rn_bot rn2_bot rn1_bot rn0_int rn0_bool rn0_str rn0_nils rn0_nilp rn0_nile rn0_erre rn0_sl rn0_iptr rn0_own rn0_view rn0_pv rn0_pa hrn_var hrn_arr hrn_dead outU_nil outU_cons deads_nil deads_cons bk_ge bk_lt nsF_0 nsF_s chH_0 chH_s chH_n newN_e andB_s eqR_nil eqR_i eqR_b eqR_s mapX_f mapX_t eqs_a beq_f beq_t live_arr live_var nsl_nil nsl_cons Nat.reduceMul Nat.reduceLT Nat.zero_le Nat.not_lt_zero
attribute [local go_sem] mV lD lA fD bN eX oP nP sR i0 s0
def ic81:IC:=sR [oP 4 (.alloc 70 [i0,i0,i0,i0,i0,i0,s0])] (sR [mV 6 0,oP 7 (.nilc (.t 6)),fD 8 3 7,lD 9 1 8,mV 10 1,oP 11 (.iad 7 (.t 9) (.t 10)),lA 12 7 11,oP 5 (.alloc 70 [i0,i0,i0,i0,i0,i0,s0]),nP (.sto 7 (.t 5) (.t 12))] (sR [mV 13 0,mV 14 0,oP 15 (.nilc (.t 14)),fD 16 3 15,lD 17 1 16,mV 18 1,mV 19 1,oP 20 (.bin .add (.t 19) (.c (.int .i64 1))),oP 21 (.call 128 [.t 17,.t 18,.t 20]),oP 22 (.nilc (.t 13)),fD 23 3 22,nP (.sto 1 (.t 23) (.t 21))] (sR [lA 24 7 5,nP (.sto 7 (.t 4) (.t 24))] .ret)))
theorem dg81:Dg Tryz.prog 81 Tryz.f81 ic81 [(.cell 4 7 true)]:=⟨Tryz.func81,by kernel_rfl,by kernel_rfl⟩
theorem c81 (w:M.World) (k:Nat) (hk:k<w.nets.length) (hn:w.nets.length≤2000000):FnP Tryz.prog G 81 1 [.var 41 [.own 2 w.convs.length,.sl 3 (w.door.map.map Pair.row),.own 1 w.door.flows.length,.own 3 w.nets.length],.arr 181 8 (w.door.flows.map Flw.row),.arr 47 10 (w.convs.map Conv.row),.arr 70 7 (w.nets.map Pk.row)] [.pv 0 0,.int .i64 (k:Int)] (fun r o=>r=.agg (Pk.row (w.nets.getD k default))∧∃v,v={ w with nets:=w.nets.eraseIdx k }∧o=[.var 41 [.own 2 v.convs.length,.sl 3 (v.door.map.map Pair.row),.own 1 v.door.flows.length,.own 3 v.nets.length],.arr 181 8 (v.door.flows.map Flw.row),.arr 47 10 (v.convs.map Conv.row),.arr 70 7 (v.nets.map Pk.row)]):=by
 refine mP dg81 Tryz.ntmps81 ⟨_,_,rfl,_,rfl,rfl⟩ ?_
 have hlen:(w.nets.eraseIdx k).length=w.nets.length - 1:=by rw[List.length_eraseIdx,if_pos hk]
 generalize hp:w.nets.getD k default=p at *
 simp only[ic81,go_sem]
 with_reducible repeat' (first|rw[i64w (by omega)];try simp only[go_sem,getD_mp hk,hp]|refine br ?_ ?_<;>intro h e<;>(try simp only[e,go_sem,getD_mp hk,hp])<;>clear e|refine sd ?_<;>try simp only[go_sem,getD_mp hk,hp]|fail)
 refine callU (o128 w.nets k hk) [3] [] 21 1 (by simp only[go_sem];first|done|simp) (by simp only[go_sem];first|done|simp) (by simp) (by simp) (by rintro _ _ ⟨rfl,rfl⟩;simp) (by intro i hi;obtain rfl:i=0:=(by omega);simp only[go_sem]) ?_
 rintro _ _ ⟨rfl,rfl⟩
 simp only[go_sem]
 with_reducible repeat' (first|refine br ?_ ?_<;>intro h e<;>(try simp only[e,go_sem])<;>clear e|rw[i64w (by omega)]|refine sd ?_<;>try simp only[go_sem]|fail)
 refine retN (.agg (Pk.row p)) [.var 41 [.own 2 ({ w with nets:=w.nets.eraseIdx k }:M.World).convs.length,.sl 3 (({ w with nets:=w.nets.eraseIdx k }:M.World).door.map.map Pair.row),.own 1 ({ w with nets:=w.nets.eraseIdx k }:M.World).door.flows.length,.own 3 ({ w with nets:=w.nets.eraseIdx k }:M.World).nets.length],.arr 181 8 (({ w with nets:=w.nets.eraseIdx k }:M.World).door.flows.map Flw.row),.arr 47 10 (({ w with nets:=w.nets.eraseIdx k }:M.World).convs.map Conv.row),.arr 70 7 (({ w with nets:=w.nets.eraseIdx k }:M.World).nets.map Pk.row)] [(3,102100)] ?_ ⟨rfl,_,rfl,rfl⟩ ?_ (by simp[argH,getN]) (by simp only[go_sem])
 ·simp only[go_sem]
 ·simp only[go_sem,hlen]
def strC (p:Pk) (c:Conv):Bool:=decide (c.out=p.frm)
def ic82:IC:=sR [oP 2 (.box 47 (.t 0)),oP 3 (.mv (.c (.bool false)))] (sR [fD 4 2 2,lA 5 2 4,fD 6 4 1,fD 7 1 6,lA 8 2 7,oP 9 (.eqs false [.i,.i] (.t 5) (.t 8)),mV 3 9] .ret)
theorem dg82:Dg Tryz.prog 82 Tryz.f82 ic82 [(.t 3)]:=⟨Tryz.func82,by kernel_rfl,by kernel_rfl⟩
theorem c82 (c:Conv) (e:Ev):FnR Tryz.prog G 82 [.agg [.int .i64 c.ins.a,.int .i64 c.ins.p,.int .i64 c.out.a,.int .i64 c.out.p,.str c.up,.str c.down,.int .i64 c.upAck,.int .i64 c.downAck,.str c.upGot,.str c.downGot],.iptr [.int .i64 e.kind,.int .i64 e.a,.int .i64 e.b,.int .i64 e.c,.int .i64 e.pkt.kind,.int .i64 e.pkt.frm.a,.int .i64 e.pkt.frm.p,.int .i64 e.pkt.to.a,.int .i64 e.pkt.to.p,.int .i64 e.pkt.at_,.str e.pkt.text] 0] (.bool (strC e.pkt c)):=by
 refine mF dg82 Tryz.ntmps82 ?_
 simp only[ic82,go_sem,E.ext_iff']
 all_goals simp_all[strC]
theorem c117D (l:List Conv) (e:Ev) (hl:l.length≤2000000):FnR Tryz.prog G 117 [.sl 10 (l.map Conv.row),.fn 82 [.iptr [.int .i64 e.kind,.int .i64 e.a,.int .i64 e.b,.int .i64 e.c,.int .i64 e.pkt.kind,.int .i64 e.pkt.frm.a,.int .i64 e.pkt.frm.p,.int .i64 e.pkt.to.a,.int .i64 e.pkt.to.p,.int .i64 e.pkt.at_,.str e.pkt.text] 0]] (.int .i64 (ixI (l.findIdx? (strC e.pkt)))):=by
 refine mF dg117 Tryz.ntmps117 ?_
 simp only[ic117,go_sem]
 refine loopN (fun k:Nat=>⟨getL [(0,.sl 10 (l.map Conv.row)),(1,.fn 82 [.iptr [.int .i64 e.kind,.int .i64 e.a,.int .i64 e.b,.int .i64 e.c,.int .i64 e.pkt.kind,.int .i64 e.pkt.frm.a,.int .i64 e.pkt.frm.p,.int .i64 e.pkt.to.a,.int .i64 e.pkt.to.p,.int .i64 e.pkt.at_,.str e.pkt.text] 0]),(7,.int .i64 l.length),(8,.int .i64 (k:Int))],getH []⟩) (fun k=>l.length - k)
  (fun k=>k≤l.length∧(l.take k).any (strC e.pkt)=false) 0 (leQ []) ⟨Nat.zero_le _,by simp⟩ ?_
 intro k ⟨hk,ha⟩
 simp only[go_sem]
 by_cases h:(k:Int)<l.length
 ·have hil:k<l.length:=by omega
  have hg:l.getD k default=l[k]:=by simp[List.getD,hil]
  have hy:=findIdx_yes hil ha
  have hs:=any_step hil ha
  simp only[eq_true h,go_sem]
  refine effG (by omega) ?_
  simp only[hg,go_sem]
  refine callR (c82 l[k] e) rfl rfl ?_
  simp only[go_sem]
  with_reducible repeat' (first|refine br ?_ ?_<;>intro h e<;>(try simp only[e,go_sem])<;>clear e|rw[i64w (by omega)]|refine sd ?_<;>try simp only[go_sem]|fail)
  ·rw[hy (by assumption)];rfl
  ·exact⟨k+1,by omega,⟨by omega,hs (by assumption)⟩,(leQ [])⟩
 ·simp only[eq_false h,go_sem]
  have:k=l.length:=by omega
  subst this
  rw[List.take_length] at ha
  rw[findIdx_no ha];rfl
theorem c71D (l:List Conv) (e:Ev) (hl:l.length≤2000000):FnR Tryz.prog G 71 [.sl 10 (l.map Conv.row),.fn 82 [.iptr [.int .i64 e.kind,.int .i64 e.a,.int .i64 e.b,.int .i64 e.c,.int .i64 e.pkt.kind,.int .i64 e.pkt.frm.a,.int .i64 e.pkt.frm.p,.int .i64 e.pkt.to.a,.int .i64 e.pkt.to.p,.int .i64 e.pkt.at_,.str e.pkt.text] 0]] (.bool (l.any (strC e.pkt))):=by
 refine mF dg71 Tryz.ntmps71 ?_
 simp only[ic71,go_sem]
 refine callR (c117D l e hl) rfl rfl ?_
 simp only[go_sem,ixI_any]
theorem stranger_e (w:M.World) (p:Pk):stranger w p=(pkOk p&&p.inward&&!w.convs.any (strC p)):=rfl
def ic45:IC:=sR [oP 3 (.box 83 (.t 1))] (.seq (.drw [0,1,0,4,12,28,60,124,255,0,512,0,2048,6144,14336,30720,63488,131071,262143,524287] [(0,fD 7 1 3),(1,lD 8 1 7),(2,mV 9 0),(3,oP 10 (.nilc (.t 9))),(4,fD 11 0 10),(5,lD 12 1 11),(6,oP 13 (.len (.t 12))),(7,oP 14 (.bin .sub (.t 13) (.c (.int .i64 1)))),(8,oP 15 (.call 76 [.t 8,.c i0,.t 14])),(9,fD 16 1 3),(10,lD 17 1 16),(11,mV 18 0),(12,oP 19 (.nilc (.t 18))),(13,fD 20 3 19),(14,lD 21 1 20),(15,oP 22 (.len (.t 21))),(16,oP 23 (.bin .sub (.t 22) (.c (.int .i64 1)))),(17,oP 24 (.call 76 [.t 17,.c i0,.t 23])),(18,mV 4 15),(19,mV 5 24)]) (.block 0 (sR [fD 26 0 3,lD 27 1 26,oP 28 (.bin .eql (.t 27) (.c (.int .i64 1))),mV 29 28,⟨some 30,some (29,true),.mv (.t 4)⟩,oP 31 (.pick (.t 29) (.t 30) (.c (.bool false))),mV 25 31] (.cond (.t 25) (.drw [0,0,2,6,14,0,32,126,254,0,512,0,2048,8190,16382,16382,65535] [(0,mV 32 0),(1,mV 33 0),(2,oP 34 (.nilc (.t 33))),(3,fD 35 0 34),(4,lD 36 1 35),(5,fD 37 1 3),(6,lD 38 1 37),(7,oP 39 (.iad 10 (.t 36) (.t 38))),(8,lA 40 10 39),(9,fD 41 2 3),(10,lD 42 1 41),(11,fD 43 3 3),(12,lD 44 1 43),(13,oP 45 (.call 78 [.t 40,.c (.bool true),.c i0,.t 42,.t 44])),(14,eX 46 45 0),(15,eX 47 45 1),(16,oP 48 (.call 77 [.t 32,.t 46,.t 47]))]) (sR [fD 50 0 3,lD 51 1 50,oP 52 (.bin .eql (.t 51) (.c (.int .i64 2))),mV 53 52,⟨some 54,some (53,true),.mv (.t 4)⟩,oP 55 (.pick (.t 53) (.t 54) (.c (.bool false))),mV 49 55] (.cond (.t 49) (.drw [0,0,2,6,14,0,32,126,254,0,0,1024,3584,0,8192,0,32768,131070,262142,262142,1048575] [(0,mV 56 0),(1,mV 57 0),(2,oP 58 (.nilc (.t 57))),(3,fD 59 0 58),(4,lD 60 1 59),(5,fD 61 1 3),(6,lD 62 1 61),(7,oP 63 (.iad 10 (.t 60) (.t 62))),(8,lA 64 10 63),(9,mV 65 0),(10,fD 66 1 3),(11,lD 67 1 66),(12,oP 68 (.call 79 [.t 65,.t 67])),(13,fD 69 2 3),(14,lD 70 1 69),(15,fD 71 3 3),(16,lD 72 1 71),(17,oP 73 (.call 78 [.t 64,.c (.bool false),.t 68,.t 70,.t 72])),(18,eX 74 73 0),(19,eX 75 73 1),(20,oP 76 (.call 77 [.t 56,.t 74,.t 75]))]) (sR [fD 78 0 3,lD 79 1 78,oP 80 (.bin .eql (.t 79) (.c (.int .i64 3))),mV 81 80,⟨some 82,some (81,true),.mv (.t 5)⟩,oP 83 (.pick (.t 81) (.t 82) (.c (.bool false))),mV 77 83] (.cond (.t 77) (.reg [mV 84 0,mV 85 0,mV 86 0,fD 87 1 3,lD 88 1 87,oP 89 (.call 81 [.t 86,.t 88]),oP 90 (.call 80 [.t 85,.t 89]),eX 91 90 0,eX 92 90 1,oP 93 (.call 77 [.t 84,.t 91,.t 92])]) (sR [fD 95 0 3,lD 96 1 95,oP 97 (.bin .eql (.t 96) (.c (.int .i64 4))),mV 98 97,⟨some 99,some (98,true),.mv (.t 5)⟩,oP 100 (.pick (.t 98) (.t 99) (.c (.bool false))),mV 94 100] (.cond (.t 94) (.reg [mV 101 0,fD 102 1 3,lD 103 1 102,oP 104 (.call 81 [.t 101,.t 103])]) (sR [fD 106 0 3,lD 107 1 106,oP 108 (.bin .eql (.t 107) (.c (.int .i64 5))),mV 109 108,⟨some 110,some (109,true),.mv (.t 5)⟩,oP 111 (.pick (.t 109) (.t 110) (.c (.bool false))),mV 105 111] (.cond (.t 105) (.drw [0,0,2,6,14,0,32,126,254,511] [(0,mV 112 0),(1,mV 113 0),(2,oP 114 (.nilc (.t 113))),(3,fD 115 3 114),(4,lD 116 1 115),(5,fD 117 1 3),(6,lD 118 1 117),(7,oP 119 (.iad 7 (.t 116) (.t 118))),(8,lA 120 7 119),(9,oP 121 (.call 77 [.t 112,.t 120,.c (.bool true)]))]) (sR [fD 123 0 3,lD 124 1 123,oP 125 (.bin .eql (.t 124) (.c (.int .i64 6))),mV 122 125] (.cond (.t 122) (sR [mV 126 0,oP 127 (.nilc (.t 126)),fD 128 0 127,lD 129 1 128,oP 130 (.mkf 82 [.t 3]),oP 131 (.call 71 [.t 129,.t 130]),oP 132 (.un .not (.t 131)),mV 6 132] (.drw [0,0,2,0,8,24,56,120,248,504,1016,2040,4088,8184,16383] [(0,mV 133 0),(1,fD 134 4 3),(2,lA 135 7 134),(3,fD 136 4 3),(4,lA 137 7 136),(5,oP 138 (.call 83 [.t 137])),(6,mV 139 138),(7,⟨some 140,some (139,true),.fad 4 (.t 3)⟩),(8,⟨some 141,some (139,true),.ld 7 true (.t 140)⟩),(9,⟨some 142,some (139,true),.call 84 [.t 141]⟩),(10,oP 143 (.pick (.t 139) (.t 142) (.c (.bool false)))),(11,mV 144 143),(12,⟨some 145,some (144,true),.mv (.t 6)⟩),(13,oP 146 (.pick (.t 144) (.t 145) (.c (.bool false)))),(14,oP 147 (.call 77 [.t 133,.t 135,.t 146]))])) .skip))))))))))))))
theorem dg45:Dg Tryz.prog 45 Tryz.f45 ic45 []:=⟨Tryz.func45,by kernel_rfl,by kernel_rfl⟩
set_option maxHeartbeats 1000000 in
theorem x45 {X:List (E×E)} (w:M.World) (e:Ev) (hw:WX X w) (ht:e.pkt.text.length≤2000000):FnP Tryz.prog G 45 1 [.var 41 [.own 2 w.convs.length,.sl 3 (w.door.map.map Pair.row),.own 1 w.door.flows.length,.own 3 w.nets.length],.arr 181 8 (w.door.flows.map Flw.row),.arr 47 10 (w.convs.map Conv.row),.arr 70 7 (w.nets.map Pk.row)] [.pv 0 0,.agg [.int .i64 e.kind,.int .i64 e.a,.int .i64 e.b,.int .i64 e.c,.int .i64 e.pkt.kind,.int .i64 e.pkt.frm.a,.int .i64 e.pkt.frm.p,.int .i64 e.pkt.to.a,.int .i64 e.pkt.to.p,.int .i64 e.pkt.at_,.str e.pkt.text]] (fun r o=>r=.tup []∧∃v,v=wDo w e∧o=[.var 41 [.own 2 v.convs.length,.sl 3 (v.door.map.map Pair.row),.own 1 v.door.flows.length,.own 3 v.nets.length],.arr 181 8 (v.door.flows.map Flw.row),.arr 47 10 (v.convs.map Conv.row),.arr 70 7 (v.nets.map Pk.row)]):=by
 refine mP dg45 Tryz.ntmps45 ⟨_,_,rfl,_,rfl,rfl⟩ ?_
 have hnl:=hw.nl
 have hcl:=hw.cl
 have hml:=(mapOk_ports (doorOk_iff.1 hw.door).1).2
 have fin:∀l mm (v:M.World) (n1 n2 n3:Nat),v=wDo w e→getH mm 0=.var 41 [.own n2 v.convs.length,.sl 3 (v.door.map.map Pair.row),.own n1 v.door.flows.length,.own n3 v.nets.length]→getH mm n1=.arr 181 8 (v.door.flows.map Flw.row)→getH mm n2=.arr 47 10 (v.convs.map Conv.row)→getH mm n3=.arr 70 7 (v.nets.map Pk.row)→[0,n1,n2,n3].Nodup →
  retQ [] 1 (fun r o=>r=.tup []∧∃v,v=wDo w e∧o=[.var 41 [.own 2 v.convs.length,.sl 3 (v.door.map.map Pair.row),.own 1 v.door.flows.length,.own 3 v.nets.length],.arr 181 8 (v.door.flows.map Flw.row),.arr 47 10 (v.convs.map Conv.row),.arr 70 7 (v.nets.map Pk.row)]) .normal ⟨getL l,getH mm⟩:=fun l mm v n1 n2 n3 h0 h1 h2 h3 h4 h5=>by
  show retQ _ _ _ .ret _
  refine retN (.tup []) [.var 41 [.own 2 v.convs.length,.sl 3 (v.door.map.map Pair.row),.own 1 v.door.flows.length,.own 3 v.nets.length],.arr 181 8 (v.door.flows.map Flw.row),.arr 47 10 (v.convs.map Conv.row),.arr 70 7 (v.nets.map Pk.row)] [(1,n1),(2,n2),(3,n3)] (by simp only[go_sem,resL_0]) ⟨rfl,v,h0,rfl⟩ ?_ (by simpa[argH,getN] using h5) (by simp only[go_sem])
  simp only[go_sem,h1,h2,h3,h4]
 have opt_i:∀o:Option Pk,(bif o.isSome then some (o.getD .zero) else none)=o:=fun o=>by cases o<;>rfl
 by_cases k1:e.kind=1
 ·have hk:=k1
  cases hbc:within e.a 0 ((w.convs.length:Int) - 1)
  ·have hx:wDo w e=w:=by simp[wDo,hk,sayW,hbc,send]
   simp only[ic45,go_sem,hk]
   with_reducible repeat' (first|rw[i64w (by omega)];try simp only[go_sem,hk,hbc]|refine br ?_ ?_<;>intro h e<;>(try simp only[e,go_sem,hk,hbc])<;>clear e|refine sd ?_<;>try simp only[go_sem,hk,hbc]|(first|refine cr (c76 ..) ?_)<;>try simp only[go_sem,hk,hbc]|fail)
   exact fin _ _ w 1 2 3 hx.symm (by simp only[go_sem]) (by simp only[go_sem]) (by simp only[go_sem]) (by simp only[go_sem]) (by decide)
  have hb2:=M.within_iff.1 hbc
  have hil:e.a.toNat<w.convs.length:=by omega
  have hg0:w.convs.getD e.a.toNat default=w.convs[e.a.toNat]:=by simp[List.getD,hil]
  have hcb:=convOk_B (hw.cv _ (List.getElem_mem hil))
  have hsw:sayW w true e.a e.b e.c=say w.convs[e.a.toNat] true 0 e.b e.c:=by simp only[sayW,hbc,if_true,List.getElem?_eq_getElem hil];rfl
  have hx:wDo w e=send w (sayW w true e.a e.b e.c):=by simp[wDo,hk]
  have fs:=c78 w.convs[e.a.toNat] true 0 e.b e.c (by have:=hcb.up;omega) (by have:=hcb.down;omega)
  rw[hsw] at hx
  generalize w.convs[e.a.toNat]=cv at *
  simp only[ic45,go_sem,hk]
  with_reducible repeat' (first|rw[i64w (by omega)];try simp only[go_sem,hk,hbc,getD_mp hil,hg0]|refine br ?_ ?_<;>intro h e<;>(try simp only[e,go_sem,hk,hbc,getD_mp hil,hg0])<;>clear e|refine sd ?_<;>try simp only[go_sem,hk,hbc,getD_mp hil,hg0]|(first|refine cr (c76 ..) ?_|refine cr (fs ..) ?_)<;>try simp only[go_sem,hk,hbc,getD_mp hil,hg0]|fail)
  generalize say cv true 0 e.b e.c=o at *
  refine callN (c77 w (o.getD .zero) o.isSome (by omega)) [0,1,2,3] [] true 48 4 (by simp only[go_sem];first|done|simp) (by simp only[go_sem];first|done|simp) (by simp) (by simp) (by simp) ?_ ?_ ?_
  ·rintro _ _ ⟨rfl,v,hv,rfl⟩
   exact⟨by simp,by simp,.inl rfl,fun i hi=>by obtain rfl:i=0:=(by omega);simp[chH,stepOk]⟩
  ·intro i hi
   rcases(show i=0∨i=1∨i=2∨i=3 by omega) with rfl|rfl|rfl|rfl<;>simp only[go_sem]
  rintro _ _ ⟨rfl,vv,hvv,rfl⟩
  simp only[go_sem]
  with_reducible repeat' (first|refine br ?_ ?_<;>intro h e<;>(try simp only[e,go_sem])<;>clear e|rw[i64w (by omega)]|refine sd ?_<;>try simp only[go_sem]|fail)
  rw[opt_i,←hx] at hvv
  exact fin _ _ vv 104801 104802 104803 hvv (by simp only[go_sem]) (by simp only[go_sem]) (by simp only[go_sem]) (by simp only[go_sem]) (by decide)
 by_cases k2:e.kind=2
 ·have hk:=k2
  cases hbc:within e.a 0 ((w.convs.length:Int) - 1)
  ·have hx:wDo w e=w:=by simp[wDo,hk,sayW,hbc,send]
   simp only[ic45,go_sem,hk]
   with_reducible repeat' (first|rw[i64w (by omega)];try simp only[go_sem,hk,hbc]|refine br ?_ ?_<;>intro h e<;>(try simp only[e,go_sem,hk,hbc])<;>clear e|refine sd ?_<;>try simp only[go_sem,hk,hbc]|(first|refine cr (c76 ..) ?_)<;>try simp only[go_sem,hk,hbc]|fail)
   exact fin _ _ w 1 2 3 hx.symm (by simp only[go_sem]) (by simp only[go_sem]) (by simp only[go_sem]) (by simp only[go_sem]) (by decide)
  have hb2:=M.within_iff.1 hbc
  have hil:e.a.toNat<w.convs.length:=by omega
  have hg0:w.convs.getD e.a.toNat default=w.convs[e.a.toNat]:=by simp[List.getD,hil]
  have hcb:=convOk_B (hw.cv _ (List.getElem_mem hil))
  have hsw:sayW w false e.a e.b e.c=say w.convs[e.a.toNat] false (portOf w.door.map w.convs[e.a.toNat].ins) e.b e.c:=by simp only[sayW,hbc,if_true,List.getElem?_eq_getElem hil];rfl
  have hx:wDo w e=send w (sayW w false e.a e.b e.c):=by simp[wDo,hk]
  have hA:((e.a.toNat:Nat):Int)=e.a:=by omega
  have fp:=c79 w e.a.toNat hil (by omega)
  rw[hg0,hA] at fp
  have fs:=c78 w.convs[e.a.toNat] false (portOf w.door.map w.convs[e.a.toNat].ins) e.b e.c (by have:=hcb.up;omega) (by have:=hcb.down;omega)
  rw[hsw] at hx
  generalize w.convs[e.a.toNat]=cv at *
  simp only[ic45,go_sem,hk]
  with_reducible repeat' (first|rw[i64w (by omega)];try simp only[go_sem,hk,hbc,getD_mp hil,hg0]|refine br ?_ ?_<;>intro h e<;>(try simp only[e,go_sem,hk,hbc,getD_mp hil,hg0])<;>clear e|refine sd ?_<;>try simp only[go_sem,hk,hbc,getD_mp hil,hg0]|(first|refine cr (c76 ..) ?_)<;>try simp only[go_sem,hk,hbc,getD_mp hil,hg0]|fail)
  refine callRd fp [0,1,2,3] 68 4 (by simp only[go_sem];first|done|simp) (by simp only[go_sem];first|done|simp) (by simp) (by simp) ?_ ?_ ?_ ?_
  ·rintro _ _ ⟨rfl,rfl⟩
   exact⟨by simp,by simp,fun i hi=>by rcases(show i=0∨i=1∨i=2∨i=3 by omega) with rfl|rfl|rfl|rfl<;>simp[chH,stepOk]⟩
  ·intro i hi
   rcases(show i=0∨i=1∨i=2∨i=3 by omega) with rfl|rfl|rfl|rfl<;>simp only[go_sem]
  ·rintro _ _ ⟨rfl,rfl⟩ x hx
   simp only[go_sem,List.drop_succ_cons,List.drop_nil,List.append_nil,List.mem_cons,List.not_mem_nil,or_false] at hx
   rcases hx with rfl|rfl|rfl|rfl<;>simp only[go_sem]
  rintro _ _ ⟨rfl,rfl⟩
  simp only[go_sem]
  with_reducible repeat' (first|refine br ?_ ?_<;>intro h e<;>(try simp only[e,go_sem,hk,getD_mp hil,hg0])<;>clear e|rw[i64w (by omega)]|refine sd ?_<;>try simp only[go_sem,hk,getD_mp hil,hg0]|(first|refine cr (fs ..) ?_)<;>try simp only[go_sem,hk,getD_mp hil,hg0]|fail)
  generalize say cv false (portOf w.door.map cv.ins) e.b e.c=o at *
  refine callN (c77 w (o.getD .zero) o.isSome (by omega)) [0,1,2,3] [] true 76 4 (by simp only[go_sem];first|done|simp) (by simp only[go_sem];first|done|simp) (by simp) (by simp) (by simp) ?_ ?_ ?_
  ·rintro _ _ ⟨rfl,v,hv,rfl⟩
   exact⟨by simp,by simp,.inl rfl,fun i hi=>by obtain rfl:i=0:=(by omega);simp[chH,stepOk]⟩
  ·intro i hi
   rcases(show i=0∨i=1∨i=2∨i=3 by omega) with rfl|rfl|rfl|rfl<;>simp only[go_sem]
  rintro _ _ ⟨rfl,vv,hvv,rfl⟩
  simp only[go_sem]
  with_reducible repeat' (first|refine br ?_ ?_<;>intro h e<;>(try simp only[e,go_sem])<;>clear e|rw[i64w (by omega)]|refine sd ?_<;>try simp only[go_sem]|fail)
  rw[opt_i,←hx] at hvv
  exact fin _ _ vv 107601 107602 107603 hvv (by simp only[go_sem]) (by simp only[go_sem]) (by simp only[go_sem]) (by simp only[go_sem]) (by decide)
 by_cases k3:e.kind=3
 ·have hk:=k3
  cases hbn:within e.a 0 ((w.nets.length:Int) - 1)
  ·have hx:wDo w e=w:=by simp[wDo,hk,hbn]
   simp only[ic45,go_sem,hk]
   with_reducible repeat' (first|rw[i64w (by omega)];try simp only[go_sem,hk,hbn]|refine br ?_ ?_<;>intro h e<;>(try simp only[e,go_sem,hk,hbn])<;>clear e|refine sd ?_<;>try simp only[go_sem,hk,hbn]|(first|refine cr (c76 ..) ?_)<;>try simp only[go_sem,hk,hbn]|fail)
   exact fin _ _ w 1 2 3 hx.symm (by simp only[go_sem]) (by simp only[go_sem]) (by simp only[go_sem]) (by simp only[go_sem]) (by decide)
  have hb2:=M.within_iff.1 hbn
  have hil:e.a.toNat<w.nets.length:=by omega
  have hg0:w.nets.getD e.a.toNat default=w.nets[e.a.toNat]:=by simp[List.getD,hil]
  have hg2:w.nets[e.a.toNat]?=some w.nets[e.a.toNat]:=List.getElem?_eq_getElem hil
  have hA:((e.a.toNat:Nat):Int)=e.a:=by omega
  have hnp:=hw.net _ (List.mem_of_getElem? hg2)
  have hx:wDo w e=send (carry { w with nets:=w.nets.eraseIdx e.a.toNat } w.nets[e.a.toNat]).1 (carry { w with nets:=w.nets.eraseIdx e.a.toNat } w.nets[e.a.toNat]).2:=by simp[wDo,hk,hbn,hg2]
  have ft:=c81 w e.a.toNat hil (by omega)
  rw[hg0,hA] at ft
  generalize hp:w.nets[e.a.toNat]=p at *
  simp only[ic45,go_sem,hk]
  with_reducible repeat' (first|rw[i64w (by omega)];try simp only[go_sem,hk,hbn]|refine br ?_ ?_<;>intro h e<;>(try simp only[e,go_sem,hk,hbn])<;>clear e|refine sd ?_<;>try simp only[go_sem,hk,hbn]|(first|refine cr (c76 ..) ?_)<;>try simp only[go_sem,hk,hbn]|fail)
  refine callN ft [0,1,2,3] [] true 89 4 (by simp only[go_sem];first|done|simp) (by simp only[go_sem];first|done|simp) (by simp) (by simp) (by simp) ?_ ?_ ?_
  ·rintro _ _ ⟨rfl,v,hv,rfl⟩
   exact⟨by simp,by simp,.inl rfl,fun i hi=>by obtain rfl:i=0:=(by omega);simp[chH,stepOk]⟩
  ·intro i hi
   rcases(show i=0∨i=1∨i=2∨i=3 by omega) with rfl|rfl|rfl|rfl<;>simp only[go_sem]
  rintro _ _ ⟨rfl,v,hv,rfl⟩
  simp only[go_sem]
  with_reducible repeat' (first|refine br ?_ ?_<;>intro h e<;>(try simp only[e,go_sem])<;>clear e|rw[i64w (by omega)]|refine sd ?_<;>try simp only[go_sem]|fail)
  rw[←hv] at hx
  have hwv:WX X v:=by rw[hv];exact hw.erase _
  have hcv:v.convs=w.convs:=by rw[hv]
  have hok:=(carry_X hwv (by rw[hcv];exact hnp)).1
  refine callN (x80 v p hwv hnp.pk) [0,108901,108902,108903] [] true 90 4 (by simp only[go_sem];first|done|simp) (by simp only[go_sem];first|done|simp) (by simp) (by simp) (by simp) ?_ ?_ ?_
  ·rintro _ _ ⟨q,rfl,hq,rfl⟩
   exact⟨by simp,by simp,.inl rfl,fun i hi=>by obtain rfl:i=0:=(by omega);simp[chH,stepOk]⟩
  ·intro i hi
   rcases(show i=0∨i=1∨i=2∨i=3 by omega) with rfl|rfl|rfl|rfl<;>simp only[go_sem]
  rintro _ _ ⟨q,rfl,hq,rfl⟩
  generalize carry v p=r at *
  obtain⟨v1,o⟩:=r
  simp only at hok hx hq
  have hn1:=hok.nl
  simp only[go_sem]
  with_reducible repeat' (first|refine br ?_ ?_<;>intro h e<;>(try simp only[e,go_sem])<;>clear e|rw[i64w (by omega)]|refine sd ?_<;>try simp only[go_sem]|fail)
  refine callN (c77 v1 q o.isSome (by omega)) [0,109001,109002,109003] [] true 93 4 (by simp only[go_sem];first|done|simp) (by simp only[go_sem];first|done|simp) (by simp) (by simp) (by simp) ?_ ?_ ?_
  ·rintro _ _ ⟨rfl,v,hv,rfl⟩
   exact⟨by simp,by simp,.inl rfl,fun i hi=>by obtain rfl:i=0:=(by omega);simp[chH,stepOk]⟩
  ·intro i hi
   rcases(show i=0∨i=1∨i=2∨i=3 by omega) with rfl|rfl|rfl|rfl<;>simp only[go_sem]
  rintro _ _ ⟨rfl,vv,hvv,rfl⟩
  simp only[go_sem]
  with_reducible repeat' (first|refine br ?_ ?_<;>intro h e<;>(try simp only[e,go_sem])<;>clear e|rw[i64w (by omega)]|refine sd ?_<;>try simp only[go_sem]|fail)
  have ho:(bif o.isSome then some q else none)=o:=by cases o with
   | none=>rfl
   | some q'=>rw[hq q' rfl];rfl
  rw[ho,←hx] at hvv
  exact fin _ _ vv 109301 109302 109303 hvv (by simp only[go_sem]) (by simp only[go_sem]) (by simp only[go_sem]) (by simp only[go_sem]) (by decide)
 by_cases k4:e.kind=4
 ·have hk:=k4
  cases hbn:within e.a 0 ((w.nets.length:Int) - 1)
  ·have hx:wDo w e=w:=by simp[wDo,hk,hbn]
   simp only[ic45,go_sem,hk]
   with_reducible repeat' (first|rw[i64w (by omega)];try simp only[go_sem,hk,hbn]|refine br ?_ ?_<;>intro h e<;>(try simp only[e,go_sem,hk,hbn])<;>clear e|refine sd ?_<;>try simp only[go_sem,hk,hbn]|(first|refine cr (c76 ..) ?_)<;>try simp only[go_sem,hk,hbn]|fail)
   exact fin _ _ w 1 2 3 hx.symm (by simp only[go_sem]) (by simp only[go_sem]) (by simp only[go_sem]) (by simp only[go_sem]) (by decide)
  have hb2:=M.within_iff.1 hbn
  have hil:e.a.toNat<w.nets.length:=by omega
  have hg0:w.nets.getD e.a.toNat default=w.nets[e.a.toNat]:=by simp[List.getD,hil]
  have hg2:w.nets[e.a.toNat]?=some w.nets[e.a.toNat]:=List.getElem?_eq_getElem hil
  have hA:((e.a.toNat:Nat):Int)=e.a:=by omega
  have hnp:=hw.net _ (List.mem_of_getElem? hg2)
  have hx:wDo w e={ w with nets:=w.nets.eraseIdx e.a.toNat }:=by simp[wDo,hk,hbn]
  have ft:=c81 w e.a.toNat hil (by omega)
  rw[hg0,hA] at ft
  generalize hp:w.nets[e.a.toNat]=p at *
  simp only[ic45,go_sem,hk]
  with_reducible repeat' (first|rw[i64w (by omega)];try simp only[go_sem,hk,hbn]|refine br ?_ ?_<;>intro h e<;>(try simp only[e,go_sem,hk,hbn])<;>clear e|refine sd ?_<;>try simp only[go_sem,hk,hbn]|(first|refine cr (c76 ..) ?_)<;>try simp only[go_sem,hk,hbn]|fail)
  refine callN ft [0,1,2,3] [] true 104 4 (by simp only[go_sem];first|done|simp) (by simp only[go_sem];first|done|simp) (by simp) (by simp) (by simp) ?_ ?_ ?_
  ·rintro _ _ ⟨rfl,v,hv,rfl⟩
   exact⟨by simp,by simp,.inl rfl,fun i hi=>by obtain rfl:i=0:=(by omega);simp[chH,stepOk]⟩
  ·intro i hi
   rcases(show i=0∨i=1∨i=2∨i=3 by omega) with rfl|rfl|rfl|rfl<;>simp only[go_sem]
  rintro _ _ ⟨rfl,v,hv,rfl⟩
  simp only[go_sem]
  with_reducible repeat' (first|refine br ?_ ?_<;>intro h e<;>(try simp only[e,go_sem])<;>clear e|rw[i64w (by omega)]|refine sd ?_<;>try simp only[go_sem]|fail)
  rw[←hx] at hv
  exact fin _ _ v 110401 110402 110403 hv (by simp only[go_sem]) (by simp only[go_sem]) (by simp only[go_sem]) (by simp only[go_sem]) (by decide)
 by_cases k5:e.kind=5
 ·have hk:=k5
  cases hbn:within e.a 0 ((w.nets.length:Int) - 1)
  ·have hx:wDo w e=w:=by simp[wDo,hk,hbn]
   simp only[ic45,go_sem,hk]
   with_reducible repeat' (first|rw[i64w (by omega)];try simp only[go_sem,hk,hbn]|refine br ?_ ?_<;>intro h e<;>(try simp only[e,go_sem,hk,hbn])<;>clear e|refine sd ?_<;>try simp only[go_sem,hk,hbn]|(first|refine cr (c76 ..) ?_)<;>try simp only[go_sem,hk,hbn]|fail)
   exact fin _ _ w 1 2 3 hx.symm (by simp only[go_sem]) (by simp only[go_sem]) (by simp only[go_sem]) (by simp only[go_sem]) (by decide)
  have hb2:=M.within_iff.1 hbn
  have hil:e.a.toNat<w.nets.length:=by omega
  have hg0:w.nets.getD e.a.toNat default=w.nets[e.a.toNat]:=by simp[List.getD,hil]
  have hg2:w.nets[e.a.toNat]?=some w.nets[e.a.toNat]:=List.getElem?_eq_getElem hil
  have hA:((e.a.toNat:Nat):Int)=e.a:=by omega
  have hnp:=hw.net _ (List.mem_of_getElem? hg2)
  have hx:wDo w e=send w (some w.nets[e.a.toNat]):=by simp[wDo,hk,hbn,hg2]
  generalize w.nets[e.a.toNat]=p at *
  simp only[ic45,go_sem,hk]
  with_reducible repeat' (first|rw[i64w (by omega)];try simp only[go_sem,hk,hbn,getD_mp hil,hg0]|refine br ?_ ?_<;>intro h e<;>(try simp only[e,go_sem,hk,hbn,getD_mp hil,hg0])<;>clear e|refine sd ?_<;>try simp only[go_sem,hk,hbn,getD_mp hil,hg0]|(first|refine cr (c76 ..) ?_)<;>try simp only[go_sem,hk,hbn,getD_mp hil,hg0]|fail)
  refine callN (c77 w p true (by omega)) [0,1,2,3] [] true 121 4 (by simp only[go_sem];first|done|simp) (by simp only[go_sem];first|done|simp) (by simp) (by simp) (by simp) ?_ ?_ ?_
  ·rintro _ _ ⟨rfl,v,hv,rfl⟩
   exact⟨by simp,by simp,.inl rfl,fun i hi=>by obtain rfl:i=0:=(by omega);simp[chH,stepOk]⟩
  ·intro i hi
   rcases(show i=0∨i=1∨i=2∨i=3 by omega) with rfl|rfl|rfl|rfl<;>simp only[go_sem]
  rintro _ _ ⟨rfl,vv,hvv,rfl⟩
  simp only[go_sem]
  with_reducible repeat' (first|refine br ?_ ?_<;>intro h e<;>(try simp only[e,go_sem])<;>clear e|rw[i64w (by omega)]|refine sd ?_<;>try simp only[go_sem]|fail)
  simp only[cond_true] at hvv
  rw[←hx] at hvv
  exact fin _ _ vv 112101 112102 112103 hvv (by simp only[go_sem]) (by simp only[go_sem]) (by simp only[go_sem]) (by simp only[go_sem]) (by decide)
 by_cases k6:e.kind=6
 ·have hk:=k6
  have fc:=c71D w.convs e (by omega)
  simp only[hk] at fc
  have f1:=c83 e.pkt ht
  have f2:=c84 e.pkt
  have hx:wDo w e=send w (bif stranger w e.pkt then some e.pkt else none):=by
   simp only[wDo,hk]
   cases stranger w e.pkt<;>simp[send]
  rw[stranger_e] at hx
  generalize w.convs.any (strC e.pkt)=ba at *
  generalize pkOk e.pkt=bp at *
  generalize e.pkt.inward=bi at *
  simp only[ic45,go_sem,hk]
  with_reducible repeat' (first|rw[i64w (by omega)];try simp only[go_sem,hk,mkf_pv1]|refine br ?_ ?_<;>intro h e<;>(try simp only[e,go_sem,hk,mkf_pv1])<;>clear e|refine sd ?_<;>try simp only[go_sem,hk,mkf_pv1]|(first|refine cr (c76 ..) ?_)<;>try simp only[go_sem,hk,mkf_pv1]|fail)
  refine callF fc [2,1003] false (by simp only[go_sem,List.mem_cons,true_or,or_true]) (by simp only[List.mem_cons,List.not_mem_nil,or_false];rintro c (rfl|rfl)<;>simp only[go_sem]) rfl (.inr rfl) ?_
  cases ba<;>cases bp<;>cases bi
  all_goals
   simp only[go_sem]
   with_reducible repeat' (first|refine br ?_ ?_<;>intro h e<;>(try simp only[e,go_sem])<;>clear e|rw[i64w (by omega)]|refine sd ?_<;>try simp only[go_sem]|(first|refine cr (f1 ..) ?_|refine cr (f2 ..) ?_)<;>try simp only[go_sem]|fail)
  all_goals first
   | (
      refine callN (c77 w e.pkt false (by omega)) [0,1,2,3] [] true 147 4 (by simp only[go_sem];first|done|simp) (by simp only[go_sem];first|done|simp) (by simp) (by simp) (by simp) ?_ ?_ ?_
      ·rintro _ _ ⟨rfl,v,hv,rfl⟩
       exact⟨by simp,by simp,.inl rfl,fun i hi=>by obtain rfl:i=0:=(by omega);simp[chH,stepOk]⟩
      ·intro i hi
       rcases(show i=0∨i=1∨i=2∨i=3 by omega) with rfl|rfl|rfl|rfl<;>simp only[go_sem]
      rintro _ _ ⟨rfl,vv,hvv,rfl⟩
      simp only[go_sem]
      with_reducible repeat' (first|refine br ?_ ?_<;>intro h e<;>(try simp only[e,go_sem])<;>clear e|rw[i64w (by omega)]|refine sd ?_<;>try simp only[go_sem]|fail)
      simp only[Bool.not_true,Bool.not_false,Bool.and_true,Bool.and_false,Bool.true_and,Bool.false_and,Bool.and_self,cond_true,cond_false] at hx hvv
      rw[←hx] at hvv
      exact fin _ _ vv 114701 114702 114703 hvv (by simp only[go_sem]) (by simp only[go_sem]) (by simp only[go_sem]) (by simp only[go_sem]) (by decide)
      done
      )
   | (
      refine callN (c77 w e.pkt true (by omega)) [0,1,2,3] [] true 147 4 (by simp only[go_sem];first|done|simp) (by simp only[go_sem];first|done|simp) (by simp) (by simp) (by simp) ?_ ?_ ?_
      ·rintro _ _ ⟨rfl,v,hv,rfl⟩
       exact⟨by simp,by simp,.inl rfl,fun i hi=>by obtain rfl:i=0:=(by omega);simp[chH,stepOk]⟩
      ·intro i hi
       rcases(show i=0∨i=1∨i=2∨i=3 by omega) with rfl|rfl|rfl|rfl<;>simp only[go_sem]
      rintro _ _ ⟨rfl,vv,hvv,rfl⟩
      simp only[go_sem]
      with_reducible repeat' (first|refine br ?_ ?_<;>intro h e<;>(try simp only[e,go_sem])<;>clear e|rw[i64w (by omega)]|refine sd ?_<;>try simp only[go_sem]|fail)
      simp only[Bool.not_true,Bool.not_false,Bool.and_true,Bool.and_false,Bool.true_and,Bool.false_and,Bool.and_self,cond_true,cond_false] at hx hvv
      rw[←hx] at hvv
      exact fin _ _ vv 114701 114702 114703 hvv (by simp only[go_sem]) (by simp only[go_sem]) (by simp only[go_sem]) (by simp only[go_sem]) (by decide)
      done
      )
 have hx:wDo w e=w:=by simp[wDo, *]
 simp only[ic45,go_sem]
 with_reducible repeat' (first|rw[i64w (by omega)];try simp only[go_sem,eq_false k1,eq_false k2,eq_false k3,eq_false k4,eq_false k5,eq_false k6]|refine br ?_ ?_<;>intro h e<;>(try simp only[e,go_sem,eq_false k1,eq_false k2,eq_false k3,eq_false k4,eq_false k5,eq_false k6])<;>clear e|refine sd ?_<;>try simp only[go_sem,eq_false k1,eq_false k2,eq_false k3,eq_false k4,eq_false k5,eq_false k6]|(first|refine cr (c76 ..) ?_)<;>try simp only[go_sem,eq_false k1,eq_false k2,eq_false k3,eq_false k4,eq_false k5,eq_false k6]|fail)
 exact fin _ _ w 1 2 3 hx.symm (by simp only[go_sem]) (by simp only[go_sem]) (by simp only[go_sem]) (by simp only[go_sem]) (by decide)
theorem convNew_is' {i o:E} {up down:B} {n:Conv} (h:convNew i o up down=some n):n=⟨i,o,up,down,0,0,[],[]⟩:=by
 unfold convNew at h
 split at h<;>cases h
 rfl
theorem newConvs_cons' (c:Conv) (cs:List Conv):newConvs (c::cs)=match convNew c.ins c.out c.up c.down with
 | some n=>(newConvs cs).map (n::·)
 | none=>none:=by
 simp only[newConvs]
 cases convNew c.ins c.out c.up c.down<;>cases newConvs cs<;>rfl
def newI (o:Option M.World) (r:V) (out:List Hs):Prop:=(∃w,o=some w∧r=.tup [.agg [.own 0 w.convs.length,.nils,.nils,.nils],.bool true]∧out=[.arr 47 10 (w.convs.map Conv.row)])∨(o=none∧r=.tup [.agg [.nils,.nils,.nils,.nils],.bool false]∧out=[])
theorem newI_ex (o:Option M.World):∃r out,newI o r out:=by
 cases o with
 | none=>exact⟨_,_,.inr ⟨rfl,rfl,rfl⟩⟩
 | some w=>exact⟨_,_,.inl ⟨w,rfl,rfl,rfl⟩⟩
def ic23:IC:=sR [oP 2 (.alloc 41 [.nils,.nils,.nils,.nils]),oP 3 (.mv (.c (.bool false)))] (sR [mV 9 0,oP 10 (.len (.t 9)),oP 11 (.mks 47 10 (.t 10)),oP 12 (.build [.nils,.nils,.nils,.nils] [(0,(1,.t 11))]),oP 4 (.alloc 41 [.nils,.nils,.nils,.nils]),nP (.sto 4 (.t 4) (.t 12))] (.seq (sR [mV 13 0,oP 14 (.len (.t 13)),oP 15 (.mv (.c i0))] (.block 0 (.loop (sR [bN 16 .lss 15 14] (.seq (.cond (.t 16) .skip (.exit 0)) (.seq (.block 1 (sR [oP 17 (.iad 10 (.t 13) (.t 15)),lA 18 10 17,oP 6 (.alloc 47 [i0,i0,i0,i0,s0,s0,i0,i0,s0,s0]),nP (.sto 10 (.t 6) (.t 18))] (sR [fD 20 0 6,lA 21 2 20,fD 22 2 6,lA 23 2 22,fD 24 4 6,lD 25 1 24,fD 26 5 6,lD 27 1 26,oP 28 (.call 40 [.t 21,.t 23,.t 25,.t 27]),mV 19 28,eX 29 19 0,eX 30 19 1,oP 7 (.alloc 47 [i0,i0,i0,i0,s0,s0,i0,i0,s0,s0]),nP (.sto 10 (.t 7) (.t 29)),mV 8 30] (.seq (sR [mV 31 8,oP 32 (.un .not (.t 31))] (.cond (.t 32) (sR [oP 33 (.build [.nils,.nils,.nils,.nils] []),nP (.sto 4 (.t 2) (.t 33)),oP 3 (.mv (.c (.bool false)))] .ret) .skip)) (.reg [fD 34 0 4,lD 35 1 34,lA 36 10 7,oP 37 (.bsl 47 10 [.t 36]),oP 38 (.app 47 10 (.t 35) (.t 37)),fD 39 0 4,nP (.sto 1 (.t 39) (.t 38))]))))) (.reg [oP 40 (.bin .add (.t 15) (.c (.int .i64 1))),mV 15 40]))))))) (.seq (sR [fD 41 0 4,lD 42 1 41,oP 43 (.call 41 [.t 42]),oP 44 (.un .not (.t 43))] (.cond (.t 44) (sR [oP 45 (.build [.nils,.nils,.nils,.nils] []),nP (.sto 4 (.t 2) (.t 45)),oP 3 (.mv (.c (.bool false)))] .ret) .skip)) (sR [lA 46 4 4,nP (.sto 4 (.t 2) (.t 46)),oP 3 (.mv (.c (.bool true)))] .ret))))
theorem dg23:Dg Tryz.prog 23 Tryz.f23 ic23 [(.cell 2 4 true),(.t 3)]:=⟨Tryz.func23,by kernel_rfl,by kernel_rfl⟩
theorem c23 (cs:List Conv) (hl:cs.length≤1000000) (hB:∀c∈cs,c.up.length≤2000000∧c.down.length≤2000000):FnP Tryz.prog G 23 0 [] [.sl 10 (cs.map Conv.row)] (newI (worldNew cs)):=by
 refine mP dg23 Tryz.ntmps23 (newI_ex _) ?_
 have none':∀l mm,worldNew cs=none→getL l 2=.pv 1002 0→getL l 3=.bool false→getH mm 1002=.var 41 [.nils,.nils,.nils,.nils]→retQ [.cell 2 4 true,.t 3] 0 (newI (worldNew cs)) .ret ⟨getL l,getH mm⟩:=fun l mm h1 h2 h3 h4=>by
  refine retN (.tup [.agg [.nils,.nils,.nils,.nils],.bool false]) [] [] ?_ (.inr ⟨h1,rfl,rfl⟩) (by simp only[go_sem]) (by simp[argH]) (by simp only[go_sem])
  simp only[go_sem,h2,h3,h4]
 simp only[ic23,go_sem]
 with_reducible repeat' (first|refine br ?_ ?_<;>intro h e<;>(try simp only[e,go_sem])<;>clear e|rw[i64w (by omega)]|refine sd ?_<;>try simp only[go_sem]|fail)
 refine loopN (fun a:Nat×List Conv=>⟨getL [(2,.pv 1002 0),(4,.pv 1004 0),(13,.sl 10 (cs.map Conv.row)),(14,.int .i64 cs.length),(15,.int .i64 (a.1:Int))],getH [(1002,.var 41 [.nils,.nils,.nils,.nils]),(1004,.var 41 [.own 1011 a.2.length,.nils,.nils,.nils]),(1011,.arr 47 10 (a.2.map Conv.row))]⟩)
  (fun a=>cs.length - a.1) (fun a=>a.1≤cs.length∧a.2.length=a.1∧newConvs cs=(newConvs (cs.drop a.1)).map (a.2++·)∧∀c∈a.2,(c.up.length≤2000000∧c.down.length≤2000000)∧c.upGot.length≤2000000∧c.downGot.length≤2000000) (0,[]) (leQ []) ⟨Nat.zero_le _,rfl,by simp,by simp⟩ ?_
 intro⟨i,ns⟩ ⟨hi,hnl,hnc,hnB⟩
 simp only at hi hnl hnc hnB
 simp only[go_sem]
 by_cases h:(i:Int)<cs.length
 ·have hil:i<cs.length:=by omega
  have hg:cs.getD i default=cs[i]:=by simp[List.getD,hil]
  obtain⟨b1,b2⟩:=hB _ (List.getElem_mem hil)
  rw[List.drop_eq_getElem_cons hil,newConvs_cons'] at hnc
  have c1:=c40 cs[i].ins cs[i].out cs[i].up cs[i].down b1 b2
  simp only[eq_true h,go_sem]
  with_reducible repeat' (first|refine br ?_ ?_<;>intro h e<;>(try simp only[e,go_sem,hg])<;>clear e|rw[i64w (by omega)]|refine sd ?_<;>try simp only[go_sem,hg]|(first|refine cr (c1 ..) ?_)<;>try simp only[go_sem,hg]|fail)
  ·obtain⟨n,hn⟩:=Option.isSome_iff_exists.1 (by assumption)
   have hni:=convNew_is' hn
   simp only[hn,Option.getD_some] at hnc ⊢
   refine⟨(i+1,ns++[n]),by simp only;omega,⟨by simp only;omega,by simp only[List.length_append,List.length_cons,List.length_nil];omega, ?_, ?_⟩,leN [(1011,1038)] ?_ ?_ (by simp[getN]) (by simp only[go_sem])⟩
   ·simp only
    rw[hnc]
    cases newConvs (cs.drop (i+1))<;>simp
   ·intro c hc
    rcases List.mem_append.1 hc with hc|hc
    ·exact hnB c hc
    ·simp only[List.mem_singleton] at hc
     subst hc
     rw[hni]
     exact⟨⟨b1,b2⟩,by simp,by simp⟩
   ·simp only[go_sem];simp
   ·simp only[go_sem];simp[Conv.row]
  ·have hn:convNew cs[i].ins cs[i].out cs[i].up cs[i].down=none:=by simpa using h
   rw[hn] at hnc
   simp only[Option.map_none] at hnc
   exact none' _ _ (by simp[worldNew,hnc]) (by simp only[go_sem]) (by simp only[go_sem]) (by simp only[go_sem])
 ·simp only[eq_false h,go_sem]
  have:i=cs.length:=by omega
  subst this
  rw[List.drop_length] at hnc
  simp only[newConvs,Option.map_some,List.append_nil] at hnc
  refine callF (c41 ns (by omega) hnB) [1011] false (by simp only[go_sem];first|done|simp[E.row,Pc.row,Pair.row,Part.row,Flw.row,Pk.row,Conv.row]) (by simp only[List.mem_singleton];rintro c rfl;rfl) rfl (.inr rfl) ?_
  simp only[go_sem]
  cases ht:together ns<;>simp only[go_sem]
  ·exact none' _ _ (by simp[worldNew,hnc,ht]) (by simp only[go_sem]) (by simp only[go_sem]) (by simp only[go_sem])
  ·refine retN (.tup [.agg [.own 0 ns.length,.nils,.nils,.nils],.bool true]) [.arr 47 10 (ns.map Conv.row)] [(0,1011)] ?_ (.inl ⟨⟨ns,.zero,[]⟩,by simp[worldNew,hnc,ht],rfl,rfl⟩) ?_ (by simp[argH,getN]) (by simp only[go_sem])
   ·simp only[go_sem]
   ·simp only[go_sem]
structure WB (w:M.World):Prop where
 c:w.convs.length≤2000000
 n:w.nets.length≤2000000
 m:w.door.map.length≤2000000
 f:w.door.flows.length≤2000000
 s:∀f∈w.door.flows,f.up.parts.length≤2000000∧f.down.parts.length≤2000000
def ic33:IC:=sR [oP 4 (.mv (.c s0))] (sR [mV 5 1,mV 6 0,mV 7 1,oP 8 (.len (.t 7)),oP 9 (.call 18 [.t 6,.t 8]),oP 10 (.iad 1 (.t 5) (.t 9)),lD 11 1 10,mV 4 11] .ret)
theorem dg33:Dg Tryz.prog 33 Tryz.f33 ic33 [(.t 4)]:=⟨Tryz.func33,by kernel_rfl,by kernel_rfl⟩
theorem c33 (code:B) (p:Int) (xs:List B) (hc:code.length≤2000) (hp:0≤p∧p≤900000000) (hx:1≤xs.length∧xs.length≤1000):FnP Tryz.prog G 33 1 [rdH code p] [.pv 0 0,.sl 1 (xs.map fun x=>[.str x])] (rdQ code p 1 fun r=>∃x,x∈xs∧r=.str x):=by
 obtain⟨x0,hx0⟩:∃x,x∈xs:=⟨xs[0],List.getElem_mem _⟩
 refine mP dg33 Tryz.ntmps33 ⟨_,_,p,by omega,by omega,rfl,x0,hx0,rfl⟩ ?_
 simp only[ic33,go_sem,rdH]
 refine pkN code p xs.length 9 hc fun k k1 k2=>?_
 simp only[go_sem,rdH]
 have k2:=k2 (by omega)
 refine effG (by omega) ?_
 have hk:k.toNat<xs.length:=by omega
 have hg:xs.getD k.toNat default=xs[k.toNat]:=by simp[List.getD,hk]
 simp only[go_sem,hg]
 exact retN (.str xs[k.toNat]) [rdH code (p+1)] [] (by simp only[go_sem]) ⟨p+1,by omega,by omega,rfl,_,List.getElem_mem _,rfl⟩ (by simp only[go_sem,rdH]) (by simp[argH,getN,rdH]) (by simp only[go_sem,rdH])
def ic20:IC:=sR [oP 4 (.mv (.c s0))] (sR [oP 5 (.mv (.c s0))] (.seq (.block 0 (.loop (.seq (sR [mV 6 1,oP 7 (.bin .gtr (.t 6) (.c i0))] (.cond (.t 7) .skip (.exit 0))) (.block 1 (.seq (sR [mV 8 1,oP 9 (.bin .rem (.t 8) (.c (.int .i64 2))),oP 10 (.bin .eql (.t 9) (.c (.int .i64 1)))] (.cond (.t 10) (.reg [mV 11 5,mV 12 0,bN 13 .add 11 12,mV 5 13]) .skip)) (sR [mV 14 0,mV 15 0,bN 16 .add 14 15,mV 0 16] (.reg [mV 17 1,oP 18 (.bin .quo (.t 17) (.c (.int .i64 2))),mV 1 18]))))))) (sR [mV 19 5,mV 4 19] .ret)))
theorem dg20:Dg Tryz.prog 20 Tryz.f20 ic20 [(.t 4)]:=⟨Tryz.func20,by kernel_rfl,by kernel_rfl⟩
theorem c20 (s:B) (n:Nat) (hn:s.length*n≤1000000) (hn2:n≤1000000):FnP Tryz.prog G 20 0 [] [.str s,.int .i64 (n:Int)] (fun r o=>o=[]∧∃t:B,t.length=s.length*n∧r=.str t):=by
 refine mP dg20 Tryz.ntmps20 ⟨_,_,rfl,List.replicate (s.length*n) 0,by simp,rfl⟩ ?_
 simp only[ic20,go_sem]
 refine loopN (fun a:B×Nat×B=>⟨getL [(0,.str a.1),(1,.int .i64 (a.2.1:Int)),(5,.str a.2.2)],getH []⟩) (fun a=>a.2.1) (fun a=>a.2.2.length+a.1.length*a.2.1=s.length*n∧a.2.1≤1000000) (s,n,[]) (leQ []) (by simp;omega) ?_
 intro⟨t,m,u⟩ ⟨h1,h2⟩
 simp only at h1 h2
 simp only[go_sem]
 have e1:(m:Int).tmod 2=((m % 2:Nat):Int):=(Int.ofNat_tmod m 2).symm
 have e2:(m:Int).tdiv 2=((m / 2:Nat):Int):=(Int.ofNat_tdiv m 2).symm
 have hm2:=Nat.div_add_mod m 2
 have hmul:t.length*m=(t.length+t.length)*(m / 2)+t.length*(m % 2):=by
  conv=>lhs;rw[←hm2]
  rw[Nat.mul_add,Nat.add_mul,Nat.mul_left_comm,Nat.two_mul]
 have ht:0<m→t.length≤t.length*m:=fun h=>Nat.le_mul_of_pos_right _ h
 have w1:IntKind.i64.wrap ((m / 2:Nat):Int)=(m / 2:Nat):=i64w (by omega)
 with_reducible repeat' (first|refine br ?_ ?_<;>intro h e<;>(try simp only[e,go_sem,e1,e2,w1])<;>clear e|rw[i64w (by omega)]|refine sd ?_<;>try simp only[go_sem,e1,e2,w1]|fail)
 ·have hb:m % 2=1:=by omega
  rw[hb,Nat.mul_one] at hmul
  exact⟨(t++t,m / 2,u++t),by simp only;omega,⟨by simp only[List.length_append];omega,by simp only;omega⟩,(leQ [])⟩
 ·have hb:m % 2=0:=by omega
  rw[hb,Nat.mul_zero] at hmul
  exact⟨(t++t,m / 2,u),by simp only;omega,⟨by simp only[List.length_append];omega,by simp only;omega⟩,(leQ [])⟩
 ·obtain rfl:m=0:=by omega
  exact retN (.str u) [] [] (by simp only[go_sem]) ⟨rfl,u,by simpa using h1,rfl⟩ (by simp only[go_sem]) (by simp[argH]) (by simp only[go_sem])
def strQ (n:Nat) (r:V):Prop:=∃s:B,s.length≤n∧r=.str s
def bits6:List B:=[[97],[98,99],[64],[120,49],[64,49,58,122],[59]]
theorem bits6_le:∀x∈bits6,x.length≤4:=by decide
def ic21:IC:=sR [oP 4 (.mv (.c s0))] (sR [oP 5 (.mv (.c s0))] (.seq (sR [mV 8 0,oP 9 (.call 18 [.t 8,.c (.int .i64 5)]),oP 10 (.bin .add (.c (.int .i64 1)) (.t 9)),mV 6 10] (.block 0 (.loop (.seq (sR [mV 11 6,oP 12 (.bin .gtr (.t 11) (.c i0))] (.cond (.t 12) .skip (.exit 0))) (.seq (.block 1 (sR [mV 15 0,oP 16 (.bsl 9 1 [.c (.str [97]),.c (.str [98,99]),.c (.str [64]),.c (.str [120,49]),.c (.str [64,49,58,122]),.c (.str [59])]),oP 17 (.call 33 [.t 15,.t 16]),mV 7 17] (.seq (sR [mV 18 0,oP 19 (.call 18 [.t 18,.c (.int .i64 5)])] (.block 2 (.seq (sR [oP 21 (.bin .eql (.t 19) (.c i0)),mV 20 21] (.cond (.t 20) .skip (.reg [oP 22 (.bin .eql (.t 19) (.c (.int .i64 1))),mV 20 22]))) (.cond (.t 20) (.reg [mV 23 0,oP 24 (.call 18 [.t 23,.c (.int .i64 3)]),oP 25 (.bin .add (.c (.int .i64 1)) (.t 24)),mV 26 0,oP 27 (.call 18 [.t 26,.c (.int .i64 4)]),oP 28 (.bin .add (.c (.int .i64 1)) (.t 27)),oP 29 (.build [i0,i0] [(0,(1,.t 25)),(1,(1,.t 28))]),oP 30 (.call 37 [.t 29]),oP 31 (.bin .add (.c (.str [64])) (.t 30)),oP 32 (.bin .add (.t 31) (.c (.str [59]))),mV 7 32]) (sR [oP 34 (.bin .eql (.t 19) (.c (.int .i64 2))),mV 33 34] (.cond (.t 33) (.reg [mV 35 0,oP 36 (.call 18 [.t 35,.c (.int .i64 3)]),oP 37 (.bin .add (.c (.int .i64 4)) (.t 36)),mV 38 0,oP 39 (.call 18 [.t 38,.c (.int .i64 4)]),oP 40 (.bin .add (.c (.int .i64 1)) (.t 39)),oP 41 (.build [i0,i0] [(0,(1,.t 37)),(1,(1,.t 40))]),oP 42 (.call 37 [.t 41]),oP 43 (.bin .add (.c (.str [64])) (.t 42)),oP 44 (.bin .add (.t 43) (.c (.str [59]))),mV 7 44]) (sR [oP 46 (.bin .eql (.t 19) (.c (.int .i64 3))),mV 45 46] (.cond (.t 45) (sR [mV 47 1] (.cond (.t 47) (.reg [mV 48 0,oP 49 (.call 18 [.t 48,.c (.int .i64 4)]),oP 50 (.bin .add (.c (.int .i64 10)) (.t 49)),oP 51 (.build [i0,i0] [(0,(1,.c (.int .i64 9))),(1,(1,.t 50))]),oP 52 (.call 37 [.t 51]),oP 53 (.bin .add (.c (.str [64])) (.t 52)),oP 54 (.bin .add (.t 53) (.c (.str [59]))),mV 7 54]) .skip)) .skip)))))))) (sR [mV 55 5,oP 56 (.lens (.t 55)),mV 57 7,oP 58 (.lens (.t 57)),bN 59 .add 56 58,oP 60 (.bin .lss (.t 59) (.c (.int .i64 24)))] (.cond (.t 60) (.reg [mV 61 5,mV 62 7,bN 63 .add 61 62,mV 5 63]) .skip))))) (.reg [mV 13 6,oP 14 (.bin .sub (.t 13) (.c (.int .i64 1))),mV 6 14])))))) (.seq (sR [mV 64 5,oP 65 (.call 38 [.t 64]),oP 66 (.bin .gtr (.t 65) (.c i0))] (.cond (.t 66) (.reg [mV 67 5,oP 68 (.bin .add (.t 67) (.c (.str [122]))),mV 5 68]) .skip)) (sR [mV 69 5,mV 4 69] .ret))))
theorem dg21:Dg Tryz.prog 21 Tryz.f21 ic21 [(.t 4)]:=⟨Tryz.func21,by kernel_rfl,by kernel_rfl⟩
theorem c21 (code:B) (p:Int) (d:Bool) (hc:code.length≤2000) (hp:0≤p∧p≤600000000):FnP Tryz.prog G 21 1 [rdH code p] [.pv 0 0,.bool d] (rdQ code p 21 (strQ 24)):=by
 refine mP dg21 Tryz.ntmps21 ⟨_,_,p,by omega,by omega,rfl,[],by simp,rfl⟩ ?_
 simp only[ic21,go_sem,rdH]
 refine pkN code p 5 9 hc fun k k1 k2=>?_
 simp only[go_sem,rdH]
 have k2:=k2 (by omega)
 with_reducible repeat' (first|rw[i64w (by omega)];try simp only[go_sem]|refine br ?_ ?_<;>intro h e<;>(try simp only[e,go_sem])<;>clear e|refine sd ?_<;>try simp only[go_sem]|fail)
 refine loopN (fun a:B×Int×Int=>⟨getL [(0,.pv 0 0),(1,.bool d),(5,.str a.1),(6,.int .i64 a.2.1)],getH [(0,.var 66 [.sl 1 (code.map byR),.int .i64 a.2.2])]⟩) (fun a=>a.2.1.toNat) (fun a=>(0≤a.2.1∧a.2.1≤5)∧(p≤a.2.2∧a.2.2≤p+1+4*(5 - a.2.1))∧a.1.length≤23) ([],1+k,p+1) (leQ []) (by simp;omega) ?_
 intro⟨s,n,q⟩ ⟨h1,h2,h3⟩
 simp only at h1 h2 h3
 simp only[go_sem]
 with_reducible repeat' (first|rw[i64w (by omega)];try simp only[go_sem]|refine br ?_ ?_<;>intro h e<;>(try simp only[e,go_sem])<;>clear e|refine sd ?_<;>try simp only[go_sem]|fail)
 ·refine callN (c33 code q bits6 hc (by omega) (by decide)) [0] [1016] true 17 1 (by simp only[go_sem,rdH,bits6,List.mem_singleton];first|done|simp) (by simp only[go_sem,rdH];first|done|simp) (by simp) (by simp) (by simp only[List.mem_singleton];rintro c rfl;exact⟨rfl,by simp⟩) ?_ ?_ ?_
  ·rintro _ _ ⟨q',_,_,rfl,_⟩
   exact⟨by simp,by simp,.inl rfl,fun i hi=>by obtain rfl:i=0:=(by omega);simp[chH,stepOk,rdH]⟩
  ·intro i hi;obtain rfl:i=0:=(by omega);simp only[go_sem]
  rintro _ _ ⟨q',q1,q2,rfl,x,hx,rfl⟩
  have hxl:=bits6_le x hx
  clear hx
  simp only[go_sem,rdH]
  refine pkN code q' 5 19 hc fun j j1 j2=>?_
  simp only[go_sem,rdH]
  have j2:=j2 (by omega)
  cases d
  all_goals
   with_reducible repeat' (first|rw[i64w (by omega)];try simp only[go_sem]|refine br ?_ ?_<;>intro h e<;>(try simp only[e,go_sem])<;>clear e|refine sd ?_<;>try simp only[go_sem]|fail)
  ·have:=0
   refine pkN code (q'+1) 3 24 hc fun a a1 a2=>?_
   simp only[go_sem,rdH]
   have a2:=a2 (by omega)
   with_reducible repeat' (first|rw[i64w (by omega)];try simp only[go_sem]|refine br ?_ ?_<;>intro h e<;>(try simp only[e,go_sem])<;>clear e|refine sd ?_<;>try simp only[go_sem]|fail)
   refine pkN code (q'+1+1) 4 27 hc fun b b1 b2=>?_
   simp only[go_sem,rdH]
   have b2:=b2 (by omega)
   with_reducible repeat' (first|rw[i64w (by omega)];try simp only[go_sem]|refine br ?_ ?_<;>intro h e<;>(try simp only[e,go_sem])<;>clear e|refine sd ?_<;>try simp only[go_sem]|fail)
   refine callR (c37 (1+a) (1+b)) rfl rfl ?_
   simp only[go_sem]
   have hte:=text_le (e:=⟨1+a,1+b⟩)
   generalize E.text ⟨1+a,1+b⟩=w at *
   refine pureG (by omega) ?_
   simp only[go_sem]
   have hwl:(w++[59]).length=w.length+1:=by simp
   with_reducible repeat' (first|rw[i64w (by omega)];try simp only[go_sem,hwl]|refine br ?_ ?_<;>intro h e<;>(try simp only[e,go_sem,hwl])<;>clear e|refine sd ?_<;>try simp only[go_sem,hwl]|fail)
   ·exact⟨(s++64::(w++[59]),n - 1,q'+1+1+1),by simp only;omega,⟨by simp only;omega,by simp only;omega,by simp only[List.length_append,List.length_cons,List.length_nil];omega⟩,(leQ [])⟩
   ·exact⟨(s,n - 1,q'+1+1+1),by simp only;omega,⟨by simp only;omega,by simp only;omega,h3⟩,(leQ [])⟩
  ·have:=0
   refine pkN code (q'+1) 3 24 hc fun a a1 a2=>?_
   simp only[go_sem,rdH]
   have a2:=a2 (by omega)
   with_reducible repeat' (first|rw[i64w (by omega)];try simp only[go_sem]|refine br ?_ ?_<;>intro h e<;>(try simp only[e,go_sem])<;>clear e|refine sd ?_<;>try simp only[go_sem]|fail)
   refine pkN code (q'+1+1) 4 27 hc fun b b1 b2=>?_
   simp only[go_sem,rdH]
   have b2:=b2 (by omega)
   with_reducible repeat' (first|rw[i64w (by omega)];try simp only[go_sem]|refine br ?_ ?_<;>intro h e<;>(try simp only[e,go_sem])<;>clear e|refine sd ?_<;>try simp only[go_sem]|fail)
   refine callR (c37 (1+a) (1+b)) rfl rfl ?_
   simp only[go_sem]
   have hte:=text_le (e:=⟨1+a,1+b⟩)
   generalize E.text ⟨1+a,1+b⟩=w at *
   refine pureG (by omega) ?_
   simp only[go_sem]
   have hwl:(w++[59]).length=w.length+1:=by simp
   with_reducible repeat' (first|rw[i64w (by omega)];try simp only[go_sem,hwl]|refine br ?_ ?_<;>intro h e<;>(try simp only[e,go_sem,hwl])<;>clear e|refine sd ?_<;>try simp only[go_sem,hwl]|fail)
   ·exact⟨(s++64::(w++[59]),n - 1,q'+1+1+1),by simp only;omega,⟨by simp only;omega,by simp only;omega,by simp only[List.length_append,List.length_cons,List.length_nil];omega⟩,(leQ [])⟩
   ·exact⟨(s,n - 1,q'+1+1+1),by simp only;omega,⟨by simp only;omega,by simp only;omega,h3⟩,(leQ [])⟩
  ·have:=0
   refine pkN code (q'+1) 3 36 hc fun a a1 a2=>?_
   simp only[go_sem,rdH]
   have a2:=a2 (by omega)
   with_reducible repeat' (first|rw[i64w (by omega)];try simp only[go_sem]|refine br ?_ ?_<;>intro h e<;>(try simp only[e,go_sem])<;>clear e|refine sd ?_<;>try simp only[go_sem]|fail)
   refine pkN code (q'+1+1) 4 39 hc fun b b1 b2=>?_
   simp only[go_sem,rdH]
   have b2:=b2 (by omega)
   with_reducible repeat' (first|rw[i64w (by omega)];try simp only[go_sem]|refine br ?_ ?_<;>intro h e<;>(try simp only[e,go_sem])<;>clear e|refine sd ?_<;>try simp only[go_sem]|fail)
   refine callR (c37 (4+a) (1+b)) rfl rfl ?_
   simp only[go_sem]
   have hte:=text_le (e:=⟨4+a,1+b⟩)
   generalize E.text ⟨4+a,1+b⟩=w at *
   refine pureG (by omega) ?_
   simp only[go_sem]
   have hwl:(w++[59]).length=w.length+1:=by simp
   with_reducible repeat' (first|rw[i64w (by omega)];try simp only[go_sem,hwl]|refine br ?_ ?_<;>intro h e<;>(try simp only[e,go_sem,hwl])<;>clear e|refine sd ?_<;>try simp only[go_sem,hwl]|fail)
   ·exact⟨(s++64::(w++[59]),n - 1,q'+1+1+1),by simp only;omega,⟨by simp only;omega,by simp only;omega,by simp only[List.length_append,List.length_cons,List.length_nil];omega⟩,(leQ [])⟩
   ·exact⟨(s,n - 1,q'+1+1+1),by simp only;omega,⟨by simp only;omega,by simp only;omega,h3⟩,(leQ [])⟩
  ·exact⟨(s++x,n - 1,q'+1),by simp only;omega,⟨by simp only;omega,by simp only;omega,by simp only[List.length_append,List.length_cons,List.length_nil];omega⟩,(leQ [])⟩
  ·exact⟨(s,n - 1,q'+1),by simp only;omega,⟨by simp only;omega,by simp only;omega,h3⟩,(leQ [])⟩
  ·exact⟨(s++x,n - 1,q'+1),by simp only;omega,⟨by simp only;omega,by simp only;omega,by simp only[List.length_append,List.length_cons,List.length_nil];omega⟩,(leQ [])⟩
  ·exact⟨(s,n - 1,q'+1),by simp only;omega,⟨by simp only;omega,by simp only;omega,h3⟩,(leQ [])⟩
  ·have:=0
   refine pkN code (q'+1) 3 24 hc fun a a1 a2=>?_
   simp only[go_sem,rdH]
   have a2:=a2 (by omega)
   with_reducible repeat' (first|rw[i64w (by omega)];try simp only[go_sem]|refine br ?_ ?_<;>intro h e<;>(try simp only[e,go_sem])<;>clear e|refine sd ?_<;>try simp only[go_sem]|fail)
   refine pkN code (q'+1+1) 4 27 hc fun b b1 b2=>?_
   simp only[go_sem,rdH]
   have b2:=b2 (by omega)
   with_reducible repeat' (first|rw[i64w (by omega)];try simp only[go_sem]|refine br ?_ ?_<;>intro h e<;>(try simp only[e,go_sem])<;>clear e|refine sd ?_<;>try simp only[go_sem]|fail)
   refine callR (c37 (1+a) (1+b)) rfl rfl ?_
   simp only[go_sem]
   have hte:=text_le (e:=⟨1+a,1+b⟩)
   generalize E.text ⟨1+a,1+b⟩=w at *
   refine pureG (by omega) ?_
   simp only[go_sem]
   have hwl:(w++[59]).length=w.length+1:=by simp
   with_reducible repeat' (first|rw[i64w (by omega)];try simp only[go_sem,hwl]|refine br ?_ ?_<;>intro h e<;>(try simp only[e,go_sem,hwl])<;>clear e|refine sd ?_<;>try simp only[go_sem,hwl]|fail)
   ·exact⟨(s++64::(w++[59]),n - 1,q'+1+1+1),by simp only;omega,⟨by simp only;omega,by simp only;omega,by simp only[List.length_append,List.length_cons,List.length_nil];omega⟩,(leQ [])⟩
   ·exact⟨(s,n - 1,q'+1+1+1),by simp only;omega,⟨by simp only;omega,by simp only;omega,h3⟩,(leQ [])⟩
  ·have:=0
   refine pkN code (q'+1) 3 24 hc fun a a1 a2=>?_
   simp only[go_sem,rdH]
   have a2:=a2 (by omega)
   with_reducible repeat' (first|rw[i64w (by omega)];try simp only[go_sem]|refine br ?_ ?_<;>intro h e<;>(try simp only[e,go_sem])<;>clear e|refine sd ?_<;>try simp only[go_sem]|fail)
   refine pkN code (q'+1+1) 4 27 hc fun b b1 b2=>?_
   simp only[go_sem,rdH]
   have b2:=b2 (by omega)
   with_reducible repeat' (first|rw[i64w (by omega)];try simp only[go_sem]|refine br ?_ ?_<;>intro h e<;>(try simp only[e,go_sem])<;>clear e|refine sd ?_<;>try simp only[go_sem]|fail)
   refine callR (c37 (1+a) (1+b)) rfl rfl ?_
   simp only[go_sem]
   have hte:=text_le (e:=⟨1+a,1+b⟩)
   generalize E.text ⟨1+a,1+b⟩=w at *
   refine pureG (by omega) ?_
   simp only[go_sem]
   have hwl:(w++[59]).length=w.length+1:=by simp
   with_reducible repeat' (first|rw[i64w (by omega)];try simp only[go_sem,hwl]|refine br ?_ ?_<;>intro h e<;>(try simp only[e,go_sem,hwl])<;>clear e|refine sd ?_<;>try simp only[go_sem,hwl]|fail)
   ·exact⟨(s++64::(w++[59]),n - 1,q'+1+1+1),by simp only;omega,⟨by simp only;omega,by simp only;omega,by simp only[List.length_append,List.length_cons,List.length_nil];omega⟩,(leQ [])⟩
   ·exact⟨(s,n - 1,q'+1+1+1),by simp only;omega,⟨by simp only;omega,by simp only;omega,h3⟩,(leQ [])⟩
  ·have:=0
   refine pkN code (q'+1) 3 36 hc fun a a1 a2=>?_
   simp only[go_sem,rdH]
   have a2:=a2 (by omega)
   with_reducible repeat' (first|rw[i64w (by omega)];try simp only[go_sem]|refine br ?_ ?_<;>intro h e<;>(try simp only[e,go_sem])<;>clear e|refine sd ?_<;>try simp only[go_sem]|fail)
   refine pkN code (q'+1+1) 4 39 hc fun b b1 b2=>?_
   simp only[go_sem,rdH]
   have b2:=b2 (by omega)
   with_reducible repeat' (first|rw[i64w (by omega)];try simp only[go_sem]|refine br ?_ ?_<;>intro h e<;>(try simp only[e,go_sem])<;>clear e|refine sd ?_<;>try simp only[go_sem]|fail)
   refine callR (c37 (4+a) (1+b)) rfl rfl ?_
   simp only[go_sem]
   have hte:=text_le (e:=⟨4+a,1+b⟩)
   generalize E.text ⟨4+a,1+b⟩=w at *
   refine pureG (by omega) ?_
   simp only[go_sem]
   have hwl:(w++[59]).length=w.length+1:=by simp
   with_reducible repeat' (first|rw[i64w (by omega)];try simp only[go_sem,hwl]|refine br ?_ ?_<;>intro h e<;>(try simp only[e,go_sem,hwl])<;>clear e|refine sd ?_<;>try simp only[go_sem,hwl]|fail)
   ·exact⟨(s++64::(w++[59]),n - 1,q'+1+1+1),by simp only;omega,⟨by simp only;omega,by simp only;omega,by simp only[List.length_append,List.length_cons,List.length_nil];omega⟩,(leQ [])⟩
   ·exact⟨(s,n - 1,q'+1+1+1),by simp only;omega,⟨by simp only;omega,by simp only;omega,h3⟩,(leQ [])⟩
  ·have:=0
   refine pkN code (q'+1) 4 49 hc fun a a1 a2=>?_
   simp only[go_sem,rdH]
   have a2:=a2 (by omega)
   with_reducible repeat' (first|rw[i64w (by omega)];try simp only[go_sem]|refine br ?_ ?_<;>intro h e<;>(try simp only[e,go_sem])<;>clear e|refine sd ?_<;>try simp only[go_sem]|fail)
   refine callR (c37 9 (10+a)) rfl rfl ?_
   simp only[go_sem]
   have hte:=text_le (e:=⟨9,10+a⟩)
   generalize E.text ⟨9,10+a⟩=w at *
   refine pureG (by omega) ?_
   simp only[go_sem]
   have hwl:(w++[59]).length=w.length+1:=by simp
   with_reducible repeat' (first|rw[i64w (by omega)];try simp only[go_sem,hwl]|refine br ?_ ?_<;>intro h e<;>(try simp only[e,go_sem,hwl])<;>clear e|refine sd ?_<;>try simp only[go_sem,hwl]|fail)
   ·exact⟨(s++64::(w++[59]),n - 1,q'+1+1),by simp only;omega,⟨by simp only;omega,by simp only;omega,by simp only[List.length_append,List.length_cons,List.length_nil];omega⟩,(leQ [])⟩
   ·exact⟨(s,n - 1,q'+1+1),by simp only;omega,⟨by simp only;omega,by simp only;omega,h3⟩,(leQ [])⟩
  ·exact⟨(s++x,n - 1,q'+1),by simp only;omega,⟨by simp only;omega,by simp only;omega,by simp only[List.length_append,List.length_cons,List.length_nil];omega⟩,(leQ [])⟩
  ·exact⟨(s,n - 1,q'+1),by simp only;omega,⟨by simp only;omega,by simp only;omega,h3⟩,(leQ [])⟩
 with_reducible repeat' (first|rw[i64w (by omega)];try simp only[go_sem]|refine br ?_ ?_<;>intro h e<;>(try simp only[e,go_sem])<;>clear e|refine sd ?_<;>try simp only[go_sem]|(first|refine cr (c38 ..) ?_)<;>try simp only[go_sem]|fail)
 ·exact retN (.str (s++[122])) [rdH code q] [] (by simp only[go_sem]) ⟨q,by omega,by omega,rfl,_,by simp;omega,rfl⟩ (by simp only[go_sem,rdH]) (by simp[argH,getN,rdH]) (by simp only[go_sem,rdH])
 ·exact retN (.str s) [rdH code q] [] (by simp only[go_sem]) ⟨q,by omega,by omega,rfl,s,by omega,rfl⟩ (by simp only[go_sem,rdH]) (by simp[argH,getN,rdH]) (by simp only[go_sem,rdH])
end Go.Proofs.YtiegngjdjheebaaGreatDoor.W
