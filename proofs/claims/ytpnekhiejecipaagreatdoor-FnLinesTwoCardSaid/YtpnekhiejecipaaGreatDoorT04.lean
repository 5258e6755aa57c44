/- Part 4 of the proof: the walk over values, the plain model, contracts of the functions of the program. -/
import Derived.Test.YtpnekhiejecipaaGreatDoorChecked
import Derived.Test.YtpnekhiejecipaaGreatDoorT03
import Derived.Shelf.Strconv.AtoiAll
import Derived.Test.YtpnekhiejecipaaGreatDoorT02
import Derived.Test.YtpnekhiejecipaaGreatDoorRows
import Derived.WalkKit
import Derived.ProofKit
import Derived.OpenShut
import Derived.ShutString
import Derived.ChangeOld
import Derived.Below
import Derived.Carry
import Derived.LaidMore
import Derived.LaidHandle
import Derived.Stop.LaidErr
import Derived.Stop.Joined
import Derived.Deep.DeepHandedRow
import Derived.Deep.DeepWitnessRowRef
import Derived.Shelf.Vars
import Derived.Shelf.Strings.OnBuilder
import Derived.Shelf.Strings.Split
set_option linter.all false
namespace Go.Proofs.YtpnekhiejecipaaGreatDoor.W
open Go Go.RowKit Go.Proofs Go.Proofs.YtpnekhiejecipaaGreatDoor.VL Go.Proofs.YtpnekhiejecipaaGreatDoor.M
attribute [congr] qgd qci qdt qh3 qhg qjf CallV_congr LoopI_congr qe2 qgk qgy qdq qky qin qjr qh0 qge qnw qe3 qii qgu
attribute [go_sem] qks qnn qob qia q5x qqw qrt qu3 qsk qz2 qrp qt8 qop qj2 qm3 qm1 exN_n exN_r exN_e exB_n exB_r exB_h exB_m qx0 kT_e qoa qwr kD_e qpa qvw j13 gK_t gK_f do_mv qtx qzk qyo qxr qtg j1g j1a qus quq qw1 qxo qw2 qy8 quv qvg qz9 qwt qsn qsi j00 j1d j2c qns qzy ldK_s qti j1p j0d qqh qy7 qxj qx3 qqq qut qyx j28 j1q qvu qyi j25 do_mn do_mx qpc j16 qx4 qvo qun j0i qyh j0n qws quk j0t ev_t ev_c qoc qli
attribute [go_sem] List.nil_append List.cons_append List.append_nil qlf qie qp1 qly qjo nm_eq ne_eq Nat.reduceEqDiff not_false_eq_true Nat.reduceAdd Nat.add_zero zZ if_true if_false ite_true ite_false qsc j1x qv1 gdV_t gdV_f gdV_s j1m ge_iff_le gt_iff_lt cond_true cond_false qtk qkl ql1 qh1 qji qiy qnp qgf ld_pv ld_pa ld_ip qr9 qrs qs7 qss qtq qs1 ldA_s ld1_s qxt qz3 j0h qts qu1 qs4 not_b neg_i cvi_i ext_t qwi qvx
attribute [go_sem] j0r qrl rvs_t rvs_c j0y qrb j12 qzg qzz qz8 j19  zS List.map_cons List.map_nil List.all_cons List.all_nil Bool.and_true Bool.and_self Bool.not_true Bool.not_false Option.map_some Option.map_none sls_s qwq loV_n loV_i hiV_n hiV_i idx_s mn_i mx_i s2b_s b2s_s qyq qi4 qgp qvr j29 qrv qm9 j1u qv0 j0x qxp qoh qnr qnf List.length_map qrx qoe qxg qz0 mks_i qk2 qqn qmr j03 eq_self qi0 qnj qv5 qmg qww qtl qqg qwc qo8 qi3 qsw qzs qm0 qzr qst qm8 qml qok List.getElem?_cons_zero List.getElem?_cons_succ zC zN decide_true decide_false Int.toNat_natCast Int.cast_ofNat_Int Int.reduceLT Int.reduceLE Int.reduceEq Int.reduceAdd Int.reduceSub Int.reduceMul Int.reduceNeg Int.reduceToNat List.getD_cons_zero List.getD_cons_succ not_true_eq_false not_false_eq_true Bool.false_eq_true Bool.true_eq_false reduceCtorEq
attribute [go_sem] E.row Pc.row Pair.row Part.row Strm.row Flw.row Pk.row Door.row Conv.row World.row Ev.row rdV E.eta Pc.eta Pair.eta Part.eta Strm.eta Pk.eta Flw.eta Conv.eta Door.eta World.eta Ev.eta
attribute [go_sem] qwa st_pv st_pa qql qu4 Nat.le_refl List.drop_zero List.drop_succ_cons List.take_succ_cons List.take_zero qa9 Nat.reduceLeDiff
attribute [go_sem] qwj qq7 qs8 qbd qlo q8z qnd qp7 qnk qtb qsd qnl qi7 qj5 qdz qgz qgc qhf qki qr0 qmz qq6 qmu qek qn8 qlz qme j04 qlv qse qow j0o qvy fzA_a fzW_a fzP_v qhc qe1 qeb WkS_nil WkS_cons WkN_nil WkN_cons qnb qhp qo0 qmb qjw qt1 qtf and_true true_and and_self
attribute [go_sem] qso qru qqf qrc qor qnc qoj qn7 qtw qri qqa qq8 qnx qox qnv qo6 qp4 qp3 qn2 qlw qn3 qp2 qm5 qnq qoo qoq qo1 qlg qr7 qsf qrn qq9 qwl qwy qvz j2f qs6 qtu qt9 qqi qm2 qne qnm qom j0a qzq j15 qx1 j26 qvs qwh j1v qm4 qmm qp5 qn0 qsh j18 qzj
attribute [go_sem] j23 j0j qqc rn_fn qyk rnfn1 qx6 qtm qsu qt3 qlx qtd qmp qmd qoi qny qwf qlu qqy qo4 j0s j0p qsy qrz qn4 qn5 qih qif qhi bk_ge bk_lt nsF_0 nsF_s chH_0 chH_s chH_n qyy j2d qqm eqR_i eqR_b eqR_s qum j07 eqs_a beq_f beq_t qg0 qex qqs qoz Nat.reduceMul Nat.reduceLT Nat.zero_le Nat.not_lt_zero
attribute [go_sem] mV lD lA fD bN eX oP nP sR i0 s0 gT gF cT cF cI pF pT cD
def ic65:IC:=sR [oP 6 (.mv cF)] (sR [mV 7 0,mV 8 1,bN 9 .geq 7 8,mV 10 9,gT 11 10 (.mv (.t 0)),gT 12 10 (.mv (.t 2)),gT 13 10 (.bin .leq (.t 11) (.t 12)),pF 14 10 13,mV 6 14] .ret)
theorem dg65:Dg Tryz.prog 65 Tryz.f65 ic65 [(.t 6)]:=⟨Tryz.func65,by kernel_rfl,by kernel_rfl⟩
theorem c65 (a b c:Int):FnR Tryz.prog G 65 [.int .i64 a,.int .i64 b,.int .i64 c] (.bool (q0g a b c)):=by
 refine mF dg65 Tryz.ntmps65 ?_
 unfold q0g
 cases h:decide (b≤a)<;>simp only[ic65,go_sem,h,Bool.false_and,Bool.true_and]
def j0f:IC:=sR [oP 6 (.mv cF)] (sR [mV 7 0,mV 8 1,bN 9 .geq 7 8,mV 10 9,gT 11 10 (.mv (.t 0)),gT 12 10 (.mv (.t 2)),gT 13 10 (.bin .leq (.t 11) (.t 12)),pF 14 10 13,mV 6 14] .ret)
theorem dg114:Dg Tryz.prog 114 Tryz.f114 j0f [(.t 6)]:=⟨Tryz.func114,by kernel_rfl,by kernel_rfl⟩
theorem qc3 (a b c:Int):FnR Tryz.prog G 114 [.int .i64 a,.int .i64 b,.int .i64 c] (.bool (q0g a b c)):=by
 refine mF dg114 Tryz.ntmps114 ?_
 unfold q0g
 cases h:decide (b≤a)<;>simp only[j0f,go_sem,h,Bool.false_and,Bool.true_and]
def qx5:IC:=sR [oP 1 (.box 63 (.t 0)),oP 2 (.mv cF)] (sR [fD 3 0 1,lD 4 1 3,oP 5 (.call 65 [.t 4,cI 1,cI 3]),mV 6 5,gT 7 6 (.fad 1 (.t 1)),gT 8 6 (.ld 1 false (.t 7)),gT 9 6 (.call 65 [.t 8,cI 1,cI 9]),pF 10 6 9,mV 2 10] .ret)
theorem dg120:Dg Tryz.prog 120 Tryz.f120 qx5 [(.t 2)]:=⟨Tryz.func120,by kernel_rfl,by kernel_rfl⟩
theorem qyd (a p:Int):FnR Tryz.prog G 120 [.agg [.int .i64 a,.int .i64 p]] (.bool (E.inside ⟨a,p⟩)):=by
 refine mF dg120 Tryz.ntmps120 ?_
 unfold E.inside
 simp only[qx5,go_sem]
 refine q0r (c65 _ _ _) rfl rfl ?_
 cases h:q0g a 1 3<;>simp only[go_sem,Bool.false_and,Bool.true_and]
 refine q0r (c65 _ _ _) rfl rfl ?_
 simp only[go_sem]
def qw4:IC:=sR [oP 1 (.box 63 (.t 0)),oP 2 (.mv cF)] (sR [fD 3 1 1,lD 4 1 3,oP 5 (.call 114 [.t 4,cI 1,cI 9]),mV 2 5] .ret)
theorem dg160:Dg Tryz.prog 160 Tryz.f160 qw4 [(.t 2)]:=⟨Tryz.func160,by kernel_rfl,by kernel_rfl⟩
theorem c160 (a p:Int):FnR Tryz.prog G 160 [.agg [.int .i64 a,.int .i64 p]] (.bool (q0g p 1 9)):=by
 refine mF dg160 Tryz.ntmps160 ?_
 simp only[qw4,go_sem]
 refine q0r (qc3 _ _ _) rfl rfl ?_
 simp only[go_sem]
def qvj:IC:=sR [oP 1 (.box 63 (.t 0)),oP 2 (.mv cF)] (sR [fD 3 0 1,lD 4 1 3,oP 5 (.call 114 [.t 4,cI 1,cI 3]),mV 6 5,gT 7 6 (.ld 2 true (.t 1)),gT 8 6 (.call 160 [.t 7]),pF 9 6 8,mV 2 9] .ret)
theorem dg109:Dg Tryz.prog 109 Tryz.f109 qvj [(.t 2)]:=⟨Tryz.func109,by kernel_rfl,by kernel_rfl⟩
theorem qua (a p:Int):FnR Tryz.prog G 109 [.agg [.int .i64 a,.int .i64 p]] (.bool (E.inside ⟨a,p⟩)):=by
 refine mF dg109 Tryz.ntmps109 ?_
 unfold E.inside
 simp only[qvj,go_sem]
 refine q0r (qc3 _ _ _) rfl rfl ?_
 cases h:q0g a 1 3<;>simp only[go_sem,Bool.false_and,Bool.true_and]
 refine q0r (c160 _ _) rfl rfl ?_
 simp only[go_sem]
def qzc:IC:=sR [oP 1 (.box 63 (.t 0)),oP 2 (.mv cF)] (sR [fD 3 0 1,lD 4 1 3,oP 5 (.call 65 [.t 4,cI 4,cI 6]),mV 6 5,gT 7 6 (.fad 1 (.t 1)),gT 8 6 (.ld 1 false (.t 7)),gT 9 6 (.call 65 [.t 8,cI 1,cI 9]),pF 10 6 9,mV 2 10] .ret)
theorem dg121:Dg Tryz.prog 121 Tryz.f121 qzc [(.t 2)]:=⟨Tryz.func121,by kernel_rfl,by kernel_rfl⟩
theorem c121 (a p:Int):FnR Tryz.prog G 121 [.agg [.int .i64 a,.int .i64 p]] (.bool (E.outside ⟨a,p⟩)):=by
 refine mF dg121 Tryz.ntmps121 ?_
 simp only[qzc,go_sem]
 with_reducible repeat' (first|refine br ?_ ?_<;>intro h e<;>(try simp only[e,go_sem])<;>clear e|rw[q01 (by omega)]|refine sd ?_<;>try simp only[go_sem]|(first|refine cr (c65 ..) ?_)<;>try simp only[go_sem]|fail)
 all_goals simp_all[E.outside]
def qxc:IC:=sR [oP 1 (.box 63 (.t 0)),oP 2 (.mv cF)] (sR [fD 3 0 1,lD 4 1 3,oP 5 (.call 114 [.t 4,cI 4,cI 6]),mV 6 5,gT 7 6 (.ld 2 true (.t 1)),gT 8 6 (.call 160 [.t 7]),pF 9 6 8,mV 2 9] .ret)
theorem dg110:Dg Tryz.prog 110 Tryz.f110 qxc [(.t 2)]:=⟨Tryz.func110,by kernel_rfl,by kernel_rfl⟩
theorem qvl (a p:Int):FnR Tryz.prog G 110 [.agg [.int .i64 a,.int .i64 p]] (.bool (E.outside ⟨a,p⟩)):=by
 refine mF dg110 Tryz.ntmps110 ?_
 simp only[qxc,go_sem]
 with_reducible repeat' (first|refine br ?_ ?_<;>intro h e<;>(try simp only[e,go_sem])<;>clear e|rw[q01 (by omega)]|refine sd ?_<;>try simp only[go_sem]|(first|refine cr (qc3 ..) ?_|refine cr (c160 ..) ?_)<;>try simp only[go_sem]|fail)
 all_goals simp_all[E.outside]
def j05:IC:=sR [oP 1 (.box 63 (.t 0)),oP 2 (.mv cF)] (sR [fD 3 0 1,lD 4 1 3,oP 5 (.bin .eql (.t 4) (cI 9)),mV 6 5,gT 7 6 (.fad 1 (.t 1)),gT 8 6 (.ld 1 false (.t 7)),gT 9 6 (.call 65 [.t 8,cI 10,cI 17]),pF 10 6 9,mV 2 10] .ret)
theorem dg125:Dg Tryz.prog 125 Tryz.f125 j05 [(.t 2)]:=⟨Tryz.func125,by kernel_rfl,by kernel_rfl⟩
theorem qlc (a p:Int):FnR Tryz.prog G 125 [.agg [.int .i64 a,.int .i64 p]] (.bool (E.door ⟨a,p⟩)):=by
 refine mF dg125 Tryz.ntmps125 ?_
 simp only[j05,go_sem]
 with_reducible repeat' (first|refine br ?_ ?_<;>intro h e<;>(try simp only[e,go_sem])<;>clear e|rw[q01 (by omega)]|refine sd ?_<;>try simp only[go_sem]|(first|refine cr (c65 ..) ?_)<;>try simp only[go_sem]|fail)
 all_goals simp_all[E.door]
def qzx:IC:=sR [oP 1 (.box 63 (.t 0)),oP 2 (.mv cF)] (sR [fD 3 0 1,lD 4 1 3,oP 5 (.bin .eql (.t 4) (cI 9)),mV 6 5,gT 7 6 (.fad 1 (.t 1)),gT 8 6 (.ld 1 false (.t 7)),gT 9 6 (.call 114 [.t 8,cI 10,cI 17]),pF 10 6 9,mV 2 10] .ret)
theorem dg119:Dg Tryz.prog 119 Tryz.f119 qzx [(.t 2)]:=⟨Tryz.func119,by kernel_rfl,by kernel_rfl⟩
theorem qle (a p:Int):FnR Tryz.prog G 119 [.agg [.int .i64 a,.int .i64 p]] (.bool (E.door ⟨a,p⟩)):=by
 refine mF dg119 Tryz.ntmps119 ?_
 simp only[qzx,go_sem]
 with_reducible repeat' (first|refine br ?_ ?_<;>intro h e<;>(try simp only[e,go_sem])<;>clear e|rw[q01 (by omega)]|refine sd ?_<;>try simp only[go_sem]|(first|refine cr (qc3 ..) ?_)<;>try simp only[go_sem]|fail)
 all_goals simp_all[E.door]
def j1e:IC:=sR [oP 1 (.box 63 (.t 0)),oP 2 (.mv cF)] (sR [lA 3 2 1,oP 4 (.call 120 [.t 3]),mV 5 4,gF 6 5 (.ld 2 true (.t 1)),gF 7 5 (.call 121 [.t 6]),pT 8 5 7,mV 9 8,gF 10 9 (.ld 2 true (.t 1)),gF 11 9 (.call 125 [.t 10]),pT 12 9 11,mV 2 12] .ret)
theorem dg133:Dg Tryz.prog 133 Tryz.f133 j1e [(.t 2)]:=⟨Tryz.func133,by kernel_rfl,by kernel_rfl⟩
theorem c133 (a p:Int):FnR Tryz.prog G 133 [.agg [.int .i64 a,.int .i64 p]] (.bool (E.any ⟨a,p⟩)):=by
 refine mF dg133 Tryz.ntmps133 ?_
 simp only[j1e,go_sem]
 with_reducible repeat' (first|refine br ?_ ?_<;>intro h e<;>(try simp only[e,go_sem])<;>clear e|rw[q01 (by omega)]|refine sd ?_<;>try simp only[go_sem]|(first|refine cr (qyd ..) ?_|refine cr (c121 ..) ?_|refine cr (qlc ..) ?_)<;>try simp only[go_sem]|fail)
 all_goals simp_all[E.any]
def qy1:IC:=sR [oP 1 (.box 63 (.t 0)),oP 2 (.mv cF)] (sR [lA 3 2 1,oP 4 (.call 109 [.t 3]),mV 5 4,gF 6 5 (.ld 2 true (.t 1)),gF 7 5 (.call 110 [.t 6]),pT 8 5 7,mV 9 8,gF 10 9 (.ld 2 true (.t 1)),gF 11 9 (.call 119 [.t 10]),pT 12 9 11,mV 2 12] .ret)
theorem dg142:Dg Tryz.prog 142 Tryz.f142 qy1 [(.t 2)]:=⟨Tryz.func142,by kernel_rfl,by kernel_rfl⟩
theorem c142 (a p:Int):FnR Tryz.prog G 142 [.agg [.int .i64 a,.int .i64 p]] (.bool (E.any ⟨a,p⟩)):=by
 refine mF dg142 Tryz.ntmps142 ?_
 simp only[qy1,go_sem]
 with_reducible repeat' (first|refine br ?_ ?_<;>intro h e<;>(try simp only[e,go_sem])<;>clear e|rw[q01 (by omega)]|refine sd ?_<;>try simp only[go_sem]|(first|refine cr (qua ..) ?_|refine cr (qvl ..) ?_|refine cr (qle ..) ?_)<;>try simp only[go_sem]|fail)
 all_goals simp_all[E.any]
theorem u8le {a b:UInt8}:((a.toNat:Int)≤(b.toNat:Int))=(a≤b):=by simp[UInt8.le_iff_toNat_le]
def dig (b:UInt8):Int:=if q57 b 48 then(b.toNat:Int) - 48 else -1
def j21:IC:=sR [oP 2 (.mv (.c i0))] (.seq (sR [mV 3 0,oP 4 (.bin .lss (.t 3) (.c (.int .u8 48))),mV 5 4,gF 6 5 (.mv (.t 0)),gF 7 5 (.bin .gtr (.t 6) (.c (.int .u8 57))),pT 8 5 7] (cD 8 (sR [oP 2 (.mv (.c (.int .i64 (-1))))] .ret) .skip)) (sR [mV 9 0,oP 10 (.bin .sub (.t 9) (.c (.int .u8 48))),oP 11 (.cvi .i64 (.t 10)),mV 2 11] .ret))
theorem dg177:Dg Tryz.prog 177 Tryz.f177 j21 [(.t 2)]:=⟨Tryz.func177,by kernel_rfl,by kernel_rfl⟩
theorem qpf (b:UInt8):FnR Tryz.prog G 177 [.int .u8 (b.toNat:Int)] (.int .i64 (dig b)):=by
 refine mF dg177 Tryz.ntmps177 ?_
 have hb:b.toNat<256:=b.toNat_lt
 have e:q57 b 48=(decide (48≤(b.toNat:Int))&&decide ((b.toNat:Int)≤57)):=by
  simp only[q57,UInt8.le_iff_toNat_le]
  have:(48:UInt8).toNat=48:=rfl
  have:(57:UInt8).toNat=57:=rfl
  congr 1<;>(apply decide_eq_decide.2;omega)
 simp only[j21,go_sem,dig,e]
 with_reducible repeat' (first|refine br ?_ ?_<;>intro h e<;>(try simp only[e,go_sem])<;>clear e|rw[q01 (by omega)]|refine sd ?_<;>try simp only[go_sem]|fail)
 all_goals first
  | (rw[if_neg (by simp;omega)])
  | (rw[if_pos (by simp;omega),u8w (by omega),q01 (by omega)])
def ic89:IC:=sR [oP 2 (.mv (.c s0))] (.seq (sR [mV 3 0,oP 4 (.bin .lss (.t 3) (.c (.int .i64 (-9223372036854775807))))] (cD 4 (sR [oP 2 (.mv (.c (.str [45,57,50,50,51,51,55,50,48,51,54,56,53,52,55,55,53,56,48,56])))] .ret) .skip)) (.seq (sR [mV 5 0,oP 6 (.bin .lss (.t 5) (.c i0))] (cD 6 (sR [mV 7 0,oP 8 (.un .neg (.t 7)),oP 9 (.call 89 [.t 8]),oP 10 (.bin .add (.c (.str [45])) (.t 9)),mV 2 10] .ret) .skip)) (.seq (sR [mV 11 0,oP 12 (.bin .lss (.t 11) (cI 10))] (cD 12 (sR [mV 13 0,oP 14 (.bin .add (cI 48) (.t 13)),oP 15 (.cvi .u8 (.t 14)),oP 16 (.bsl 5 1 [.t 15]),oP 17 (.b2s (.t 16)),mV 2 17] .ret) .skip)) (.seq (.drw [0,1,3,0,8,24,56,120,248,511,1023] [(0,mV 18 0),(1,oP 19 (.bin .quo (.t 18) (cI 10))),(2,oP 20 (.call 89 [.t 19])),(3,mV 21 0),(4,oP 22 (.bin .rem (.t 21) (cI 10))),(5,oP 23 (.bin .add (cI 48) (.t 22))),(6,oP 24 (.cvi .u8 (.t 23))),(7,oP 25 (.bsl 5 1 [.t 24])),(8,oP 26 (.b2s (.t 25))),(9,bN 27 .add 20 26),(10,mV 2 27)]) .ret))))
theorem dg89:Dg Tryz.prog 89 Tryz.f89 ic89 [(.t 2)]:=⟨Tryz.func89,by kernel_rfl,by kernel_rfl⟩
theorem c089 (n:Int) (h:0≤n∧n<10):FnR Tryz.prog G 89 [.int .i64 n] (.str (dec n)):=by
 refine mF dg89 Tryz.ntmps89 ?_
 simp only[ic89,go_sem]
 with_reducible repeat' (first|refine br ?_ ?_<;>intro h e<;>(try simp only[e,go_sem])<;>clear e|rw[q01 (by omega)]|refine sd ?_<;>try simp only[go_sem]|fail)
 all_goals first|omega|skip
 rw[u8w (by omega)]
 simp only[dec,q7h]
 rw[if_pos (by omega)]
 congr 2
 omega
theorem c89 (n:Int) (h:0≤n∧n<100):FnR Tryz.prog G 89 [.int .i64 n] (.str (dec n)):=by
 by_cases h10:n<10
 ·exact c089 n ⟨h.1,h10⟩
 refine mF dg89 Tryz.ntmps89 ?_
 have e1:n.tdiv 10=n / 10:=Int.tdiv_eq_ediv_of_nonneg h.1
 have e2:n.tmod 10=n % 10:=Int.tmod_eq_emod_of_nonneg h.1
 have hl:(dec (n / 10)).length≤2:=by unfold dec q7h;split<;>simp
 simp only[ic89,go_sem,e1,e2]
 with_reducible repeat' (first|refine br ?_ ?_<;>intro h e<;>(try simp only[e,go_sem])<;>clear e|rw[q01 (by omega)]|refine sd ?_<;>try simp only[go_sem]|fail)
 all_goals first|omega|skip
 refine q0r (c089 _ (by omega)) rfl rfl ?_
 simp only[go_sem,e1,e2]
 with_reducible repeat' (first|refine br ?_ ?_<;>intro h e<;>(try simp only[e,go_sem])<;>clear e|rw[q01 (by omega)]|refine sd ?_<;>try simp only[go_sem]|fail)
 simp only[dec,q7h]
 rw[if_neg (by omega),if_pos (by omega),u8w (by omega)]
 have e3:n.toNat / 10=(n / 10).toNat:=by omega
 have e4:48+n.toNat % 10=(48+n % 10).toNat:=by omega
 simp only[List.cons_append,List.nil_append,e3,e4]
theorem qbw (n:Int):(dec n).length≤2:=by unfold dec q7h;split<;>simp
def qya:IC:=sR [oP 4 (.mv cF)] (sR [mV 5 0,mV 6 1,bN 7 .geq 5 6,mV 8 7,gT 9 8 (.mv (.t 0)),gT 10 8 (.bin .leq (.t 9) (.c (.int .u8 57))),pF 11 8 10,mV 4 11] .ret)
theorem dg147:Dg Tryz.prog 147 Tryz.f147 qya [(.t 4)]:=⟨Tryz.func147,by kernel_rfl,by kernel_rfl⟩
theorem c147 (b lo:UInt8):FnR Tryz.prog G 147 [.int .u8 (b.toNat:Int),.int .u8 (lo.toNat:Int)] (.bool (q57 b lo)):=by
 refine mF dg147 Tryz.ntmps147 ?_
 have e:q57 b lo=(decide ((lo.toNat:Int)≤(b.toNat:Int))&&decide ((b.toNat:Int)≤57)):=by
  simp only[q57,UInt8.le_iff_toNat_le]
  have:(57:UInt8).toNat=57:=rfl
  congr 1<;>(apply decide_eq_decide.2;omega)
 simp only[qya,go_sem,e]
 with_reducible repeat' (first|refine br ?_ ?_<;>intro h e<;>(try simp only[e,go_sem])<;>clear e|rw[q01 (by omega)]|refine sd ?_<;>try simp only[go_sem]|fail)
 all_goals simp_all
theorem qgt (b:UInt8):(decide ((97:Int)≤(b.toNat:Int))=decide (97≤b))∧(decide ((b.toNat:Int)≤122)=decide (b≤122))∧(decide ((48:Int)≤(b.toNat:Int))=decide (48≤b))∧(decide ((b.toNat:Int)≤57)=decide (b≤57)) ∧
 (decide ((b.toNat:Int)=64)=decide (b=64))∧(decide ((b.toNat:Int)=58)=decide (b=58))∧(decide ((b.toNat:Int)=59)=decide (b=59))∧(decide ((b.toNat:Int)<97)=decide (b<97))∧(decide (122<(b.toNat:Int))=decide (122<b)):=by
 refine⟨?_, ?_, ?_, ?_, ?_, ?_, ?_, ?_, ?_⟩<;>apply decide_eq_decide.2<;>simp only[UInt8.le_iff_toNat_le,UInt8.lt_iff_toNat_lt,←UInt8.toNat_inj] <;>
  (have e1:(97:UInt8).toNat=97:=rfl;have e2:(122:UInt8).toNat=122:=rfl;have e3:(48:UInt8).toNat=48:=rfl;have e4:(57:UInt8).toNat=57:=rfl
   have e5:(64:UInt8).toNat=64:=rfl;have e6:(58:UInt8).toNat=58:=rfl;have e7:(59:UInt8).toNat=59:=rfl
   omega)
def j1h:IC:=sR [oP 2 (.mv cF)] (sR [mV 3 0,oP 4 (.bin .geq (.t 3) (.c (.int .u8 97))),mV 5 4,gT 6 5 (.mv (.t 0)),gT 7 5 (.bin .leq (.t 6) (.c (.int .u8 122))),pF 8 5 7,mV 9 8,gF 10 9 (.mv (.t 0)),gF 11 9 (.bin .geq (.t 10) (.c (.int .u8 48))),gF 12 9 (.mv (.t 11)),gT 13 12 (.mv (.t 0)),gT 14 12 (.bin .leq (.t 13) (.c (.int .u8 57))),gF 15 9 (.pick (.t 12) (.t 14) cF),pT 16 9 15,mV 17 16,gF 18 17 (.mv (.t 0)),gF 19 17 (.bin .eql (.t 18) (.c (.int .u8 64))),pT 20 17 19,mV 21 20,gF 22 21 (.mv (.t 0)),gF 23 21 (.bin .eql (.t 22) (.c (.int .u8 58))),pT 24 21 23,mV 25 24,gF 26 25 (.mv (.t 0)),gF 27 25 (.bin .eql (.t 26) (.c (.int .u8 59))),pT 28 25 27,mV 2 28] .ret)
theorem dg197:Dg Tryz.prog 197 Tryz.f197 j1h [(.t 2)]:=⟨Tryz.func197,by kernel_rfl,by kernel_rfl⟩
theorem c197 (b:UInt8):FnR Tryz.prog G 197 [.int .u8 (b.toNat:Int)] (.bool (okB b)):=by
 refine mF dg197 Tryz.ntmps197 ?_
 obtain⟨e1,e2,e3,e4,e5,e6,e7,e8,e9⟩:=qgt b
 simp only[j1h,go_sem,e1,e2,e3,e4,e5,e6,e7]
 repeat' (first
  | (with_reducible refine gBn (λh=>?_) (λh=>?_)<;>(try simp only[h,go_sem,e1,e2,e3,e4,e5,e6,e7]))
  | (with_reducible refine gB (λh=>?_) (λh=>?_)<;>(try simp only[h,go_sem,e1,e2,e3,e4,e5,e6,e7])))
 all_goals(clear e1 e2 e3 e4 e5 e6 e7 e8 e9;simp only[okB,q57, *,Bool.and_true,Bool.true_and,Bool.false_and,Bool.or_true,Bool.true_or,Bool.false_or,Bool.or_false,Bool.and_self])
theorem q6k {t:B} {i:Nat} (h:i<t.length) {p:UInt8→Bool} (hi:(t.take i).all p=true) (hp:p (t.getD i 0)=true):(t.take (i+1)).all p=true:=by
 rw[List.take_add_one,List.all_append,hi]
 simp only[List.getD,zE h,Option.getD_some] at hp
 simp[zE h,hp]
theorem qac {t:B} {i:Nat} (h:i<t.length) (hp:okB (t.getD i 0)=false):txOk t=false:=by
 have:t.all okB=false:=by
  rw[List.all_eq_false]
  exact⟨t[i],List.getElem_mem h,by simpa[List.getD,zE h] using hp⟩
 simp[txOk,this]
def qxs:IC:=sR [oP 2 (.mv cF)] (.seq (sR [oP 3 (.mv (.c i0))] (.block 0 (.loop (.seq (sR [mV 4 3,mV 5 0,oP 6 (.lens (.t 5)),bN 7 .lss 4 6] (cD 7 .skip (.exit 0))) (.seq (.block 1 (sR [mV 10 0,mV 11 3,oP 12 (.idx (.t 10) (.t 11)),oP 13 (.call 197 [.t 12]),oP 14 (.un .not (.t 13))] (cD 14 (sR [oP 2 (.mv cF)] .ret) .skip))) (.reg [mV 8 3,oP 9 (.bin .add (.t 8) (cI 1)),mV 3 9])))))) (sR [mV 15 0,oP 16 (.lens (.t 15)),oP 17 (.bin .leq (.t 16) (cI 40)),mV 2 17] .ret))
theorem dg161:Dg Tryz.prog 161 Tryz.f161 qxs [(.t 2)]:=⟨Tryz.func161,by kernel_rfl,by kernel_rfl⟩
theorem qq5 (t:B) (hl:t.length≤2000000:=by omega):FnR Tryz.prog G 161 [.str t] (.bool (txOk t)):=by
 refine mF dg161 Tryz.ntmps161 ?_
 simp only[qxs,go_sem]
 refine q0v (λi:Nat=>⟨q0i [(0,.str t),(3,.int .i64 (i:Int))],q0c []⟩) (λi=>t.length - i) (λi=>i≤t.length∧(t.take i).all okB=true) 0 (leQ []) ⟨Nat.zero_le _,by simp⟩ ?_
 intro i ⟨hi,ha⟩
 simp only[go_sem]
 with_reducible repeat' (first|refine br ?_ ?_<;>intro h e<;>(try simp only[e,go_sem])<;>clear e|rw[q01 (by omega)]|refine sd ?_<;>try simp only[go_sem]|(first|refine cr (c197 ..) ?_)<;>try simp only[go_sem]|fail)
 ·exact⟨i+1,by omega,⟨by omega,q6k (by omega) ha h⟩,(leQ [])⟩
 ·exact qac (by omega) h
 ·have:i=t.length:=by omega
  subst this
  simp only[List.take_length] at ha
  simp only[txOk,ha,Bool.true_and]
  apply decide_eq_decide.2;omega
theorem q8h (c:UInt8) (s:B):Lib.index s [c]=if c∈s then((s.takeWhile λb=>decide (b≠c)).length:Int) else -1:=by
 induction s with
 | nil=>rfl
 | cons b l ih =>
   unfold Lib.index
   by_cases h:b=c
   ·subst h;simp[List.isPrefixOf]
   ·have h':¬c=b:=λe=>h e.symm
    have hp:([c]:B).isPrefixOf (b::l)=false:=by simp[List.isPrefixOf,h']
    rw[hp,if_neg (by simp),ih]
    by_cases hm:c∈l
    ·simp[hm,h,h']
    ·simp[hm,h']
theorem qjn (p:UInt8→Bool):∀s:B,s.take (s.takeWhile p).length=s.takeWhile p
 | []=>rfl
 | b::l=>by
   by_cases h:p b=true
   ·simp[h,qjn p l]
   ·simp[h]
theorem ql9 (p:UInt8→Bool):∀s:B,s.drop (s.takeWhile p).length=s.dropWhile p
 | []=>rfl
 | b::l=>by
   by_cases h:p b=true
   ·simp[h,ql9 p l]
   ·simp[h]
theorem qt5 (s:B) (c:UInt8):Lib.cut s [c]=q81 s c:=by
 unfold Lib.cut q81
 rw[q8h]
 by_cases h:c∈s
 ·rw[if_pos h,if_pos (by omega),if_pos h]
  simp only[Int.toNat_natCast,qjn,zC,zN,←List.drop_drop,ql9,List.drop_one,zZ]
 ·rw[if_neg h,if_neg (by decide),if_neg h]
theorem qgv (n:Nat) (h:n<100):Lib.decDigits n=q7h n:=by
 unfold q7h
 rw[Lib.decDigits]
 split
 ·rfl
 ·rw[Lib.decDigits,dif_pos (by omega)]
  rfl
theorem qnt:∀k:Fin 100,Lib.atoiAll (q7h k.val)=.ok (k.val:Int):=by decide +kernel
theorem q5y (k:Int) (h0:0≤k) (h1:k<100):Lib.atoiAll (dec k)=.ok k:=by
 have:=qnt ⟨k.toNat,by omega⟩
 simp only at this
 unfold dec
 rw[this]
 congr 1
 omega
theorem e49:entr Tryz.prog 49=true:=by kernel_rfl
theorem c49 (n:Int) (h:0≤n∧n<100:=by omega):FnR Tryz.prog G 49 [.int .i64 n] (.str (dec n)):=by
 obtain⟨k,rfl⟩:∃k:Nat,n=(k:Int):=⟨n.toNat,by omega⟩
 refine FnR.lib e49 rfl rfl λW hg=>(Tryz.strconv_Itoa_small k (by omega) W).mono λe W' ⟨he,hw⟩=>⟨?_,by subst hw;exact Below.refl _ _⟩
 rw[he,qgv k (by omega)]
 rfl
theorem e46:entr Tryz.prog 46=true:=by kernel_rfl
theorem c46 (s:B) (c:UInt8) (hs:s.length<4294967281:=by omega):FnR Tryz.prog G 46 [.str s,.str [c]] (.tup [.str (q81 s c).1,.str (q81 s c).2.1,.bool (q81 s c).2.2]):=by
 refine FnR.lib e46 rfl rfl λW hg=>?_
 obtain⟨⟨m,hm⟩,_⟩:=hg
 refine(Tryz.strings_Cut (mkStr s) (mkStr [c]) m W (by simpa[mkStr,ByteArray.size] using hs) hm).mono λe W' ⟨he,n,hw⟩=>⟨?_, ?_⟩
 ·rw[he]
  simp only[mkStr,qt5]
  rfl
 ·subst hw
  exact⟨rfl,rfl,rfl,Nat.le_refl _,λ_ _=>rfl⟩
theorem e262:entr Tryz.prog 262=true:=by kernel_rfl
theorem c262 (s p:B):FnR Tryz.prog G 262 [.str s,.str p] (.tup [.str (if p.isPrefixOf s then s.drop p.length else s),.bool (p.isPrefixOf s)]) :=
 FnR.lib e262 rfl rfl λW hg=>(Tryz.strings_CutPrefix (mkStr s) (mkStr p) W).mono λe W' ⟨he,hw⟩=>⟨he,by subst hw;exact Below.refl _ _⟩
theorem e187:entr Tryz.prog 187=true:=by kernel_rfl
theorem c187 (s:B) (hs:s.length≤281474976710656:=by omega):FnR Tryz.prog G 187 [.str s] (.str s) :=
 FnR.lib e187 rfl rfl λW hg=>(Tryz.stringslite_Clone (mkStr s) W (by simpa[mkStr,ByteArray.size] using hs)).mono λe W' ⟨he,hw⟩=>⟨he,hw⟩
def j0w:IC:=sR [oP 2 (.mv (.c s0))] (sR [mV 3 0,oP 4 (.call 187 [.t 3]),mV 2 4] .ret)
theorem dg150:Dg Tryz.prog 150 Tryz.f150 j0w [(.t 2)]:=⟨Tryz.func150,by kernel_rfl,by kernel_rfl⟩
theorem qcy (s:B) (hs:s.length≤281474976710656:=by omega):FnR Tryz.prog G 150 [.str s] (.str s):=by
 refine mF dg150 Tryz.ntmps150 ?_
 simp only[j0w,go_sem]
 refine q0r (c187 _ hs) rfl rfl ?_
 simp only[go_sem]
def AtoiP (s:B) (r:V) (o:List Hs):Prop:=o=[]∧((∃n:Int,r=.tup [.int .i64 n,.nile]∧∀k:Int,0≤k→k<100→s=dec k→n=k)∨(∃n:Int,r=.tup [.int .i64 n,.erre]∧∀k:Int,0≤k→k<100→s≠dec k))
theorem e149:entr Tryz.prog 149=true:=by kernel_rfl
theorem qi8 {w:World} {O:Nat→Prop} {ρ:Nat→VL.Loc} {h:Nat→Hs} (n:Int) (t:TypeId) (N:Nat):Den w O ρ h (.tup [.int .i64 n,.erre]) (.tuple #[.int .i64 n,.iface t (.pointer (some ⟨N,0,none⟩))]):=by
 refine⟨[.int .i64 n,.iface t (.pointer (some ⟨N,0,none⟩))],rfl,rfl,λj v u hv hu=>?_⟩
 match j,hv,hu with
 | 0,hv,hu=>cases hv;cases hu;exact Imm.int _ _
 | 1,hv,hu=>cases hv;cases hu;exact Imm.erre _ _
theorem qui (s:B) (hs:s.length≤2000000:=by omega):FnP Tryz.prog G 149 0 [] [.str s] (AtoiP s):=by
 have key:FnP Tryz.prog G 149 0 [] [.str s] (λr o=>o=[]∧((∃n:Int,r=.tup [.int .i64 n,.nile]∧∀k:Int,0≤k→k<100→s=dec k→n=k)∨(∃n:Int,r=.tup [.int .i64 n,.erre]∧∀k:Int,0≤k→k<100→s≠dec k))):=by
  have hz:(mkStr s).size≤2000000:=by simpa[mkStr,ByteArray.size] using hs
  have hl:(mkStr s).data.toList=s:=by simp[mkStr]
  rcases ha:Lib.atoiAll s with v|_|_
  ·refine FnP.lib (us:=[.string (mkStr s)]) e149 rfl ⟨_,.inl ⟨v,rfl,λk h0 h1 h2=>?_⟩⟩ λW hg=>(Any.strconv_Atoi_ok Tryz.laysC172 (mkStr s) (by omega) v (by rw[hl];exact ha) W).mono λe W' ⟨he,hw⟩=>⟨?_,_,_,he,.inl ⟨v,rfl,λk h0 h1 h2=>?_⟩,λO _=>qaq rfl⟩
   ·rw[h2,q5y k h0 h1] at ha;cases ha;rfl
   ·rcases hw with rfl|⟨t,rfl⟩
    ·exact Below.refl _ _
    ·exact Lib.bytesWorld_below W _ t
   ·rw[h2,q5y k h0 h1] at ha;cases ha;rfl
  ·refine FnP.lib (us:=[.string (mkStr s)]) e149 rfl ⟨_,.inr ⟨0,rfl,λk h0 h1 h2=>?_⟩⟩ λW hg=>?_
   ·rw[h2,q5y k h0 h1] at ha;cases ha
   obtain⟨_,⟨ev,hv,hev⟩,_⟩:=hg
   refine(Any.strconv_Atoi_syntax Tryz.laysC172 (mkStr s) (by omega) (by rw[hl];exact ha) ev W hv hev).mono λe W' ⟨N,he,hN,_,hb⟩=>⟨hb,_,_,he,.inr ⟨0,rfl,λk h0 h1 h2=>?_⟩,λO hO=>qi8 _ _ N⟩
   ·rw[h2,q5y k h0 h1] at ha;cases ha
  ·refine FnP.lib (us:=[.string (mkStr s)]) e149 rfl ⟨_,.inr ⟨0,rfl,λk h0 h1 h2=>?_⟩⟩ λW hg=>?_
   ·rw[h2,q5y k h0 h1] at ha;cases ha
   obtain⟨_,_,ev,hv,hev⟩:=hg
   refine(Any.strconv_Atoi_range Tryz.laysC172 (mkStr s) (by omega) (by rw[hl];exact ha) ev W hv hev).mono λe W' ⟨N,he,hN,_,hb⟩=>⟨hb,_,_,he,.inr ⟨_,rfl,λk h0 h1 h2=>?_⟩,λO hO=>qi8 _ _ N⟩
   ·rw[h2,q5y k h0 h1] at ha;cases ha
 exact key
theorem qrf (b:UInt8):FnR Tryz.prog G 147 [.int .u8 (b.toNat:Int),.int .u8 48] (.bool (q57 b 48)):=c147 b 48
theorem fig49 (b:UInt8):FnR Tryz.prog G 147 [.int .u8 (b.toNat:Int),.int .u8 49] (.bool (q57 b 49)):=c147 b 49
theorem qen {t:B} {i:Nat} (h:i<t.length) (hp:okB (t.getD i default)=false):txOk t=false:=by
 refine qac h ?_
 have:t.getD i default=t.getD i 0:=by simp[List.getD,h]
 rwa [←this]
theorem q9j {t:B} {i:Nat} (h:i<t.length) {p:UInt8→Bool} (hi:(t.take i).all p=true) (hp:p (t.getD i default)=true):(t.take (i+1)).all p=true:=by
 refine q6k h hi ?_
 have:t.getD i default=t.getD i 0:=by simp[List.getD,h]
 rwa [←this]
theorem j02 (b:UInt8):okB b=((!decide (b<97)&&!decide (122<b))||q57 b 48||decide (b=64)||decide (b=58)||decide (b=59)):=by
 have h1:decide (97≤b)=!decide (b<97):=by rw[←decide_not];exact decide_eq_decide.2 UInt8.not_lt.symm
 have h2:decide (b≤122)=!decide (122<b):=by rw[←decide_not];exact decide_eq_decide.2 UInt8.not_lt.symm
 simp only[okB,h1,h2]
def qw8:IC:=sR [oP 2 (.mv cF)] (.seq (sR [mV 5 0,oP 6 (.s2b (.t 5)),oP 7 (.len (.t 6)),oP 8 (.mv (.c i0))] (.block 0 (.loop (sR [bN 9 .lss 8 7] (.seq (cD 9 .skip (.exit 0)) (.seq (.block 1 (sR [oP 10 (.iad 1 (.t 6) (.t 8)),lD 11 1 10,mV 4 11] (sR [mV 12 4,oP 13 (.call 147 [.t 12,.c (.int .u8 48)]),oP 14 (.un .not (.t 13)),mV 15 14,gT 16 15 (.mv (.t 4)),gT 17 15 (.bin .neq (.t 16) (.c (.int .u8 64))),pF 18 15 17,mV 19 18,gT 20 19 (.mv (.t 4)),gT 21 19 (.bin .neq (.t 20) (.c (.int .u8 58))),pF 22 19 21,mV 23 22,gT 24 23 (.mv (.t 4)),gT 25 23 (.bin .neq (.t 24) (.c (.int .u8 59))),pF 26 23 25,mV 27 26,gT 28 27 (.mv (.t 4)),gT 29 27 (.bin .lss (.t 28) (.c (.int .u8 97))),gT 30 27 (.mv (.t 29)),gF 31 30 (.mv (.t 4)),gF 32 30 (.bin .gtr (.t 31) (.c (.int .u8 122))),gT 33 27 (.pick (.t 30) cT (.t 32)),pF 34 27 33] (cD 34 (sR [oP 2 (.mv cF)] .ret) .skip)))) (.reg [oP 35 (.bin .add (.t 8) (cI 1)),mV 8 35]))))))) (sR [mV 36 0,oP 37 (.lens (.t 36)),oP 38 (.bin .leq (.t 37) (cI 40)),mV 2 38] .ret))
theorem dg134:Dg Tryz.prog 134 Tryz.f134 qw8 [(.t 2)]:=⟨Tryz.func134,by kernel_rfl,by kernel_rfl⟩
theorem qvi (t:B) (hl:t.length≤2000000:=by omega):FnR Tryz.prog G 134 [.str t] (.bool (txOk t)):=by
 refine mF dg134 Tryz.ntmps134 ?_
 simp only[qw8,go_sem]
 with_reducible repeat' (first|refine br ?_ ?_<;>intro h e<;>(try simp only[e,go_sem])<;>clear e|rw[q01 (by omega)]|refine sd ?_<;>try simp only[go_sem]|fail)
 refine q0v (λi:Nat=>⟨q0i [(0,.str t),(6,.sl 1 (t.map λb=>[.int .u8 (b.toNat:Int)])),(7,.int .i64 t.length),(8,.int .i64 (i:Int))],q0c []⟩) (λi=>t.length - i) (λi=>i≤t.length∧(t.take i).all okB=true) 0 (leQ []) ⟨Nat.zero_le _,by simp⟩ ?_
 intro i ⟨hi,ha⟩
 simp only[go_sem]
 by_cases h:(i:Int)<t.length
 ·simp only[h,go_sem]
  refine effG (by omega) ?_
  generalize hb:t.getD i default=b
  obtain⟨e1,e2,e3,e4,e5,e6,e7,e8,e9⟩:=qgt b
  simp only[go_sem]
  refine q0r (qrf _) rfl rfl ?_
  simp only[go_sem,e5,e6,e7,e8,e9]
  repeat' (first
   | (with_reducible refine gBn (λh=>?_) (λh=>?_)<;>(try simp only[h,go_sem,e5,e6,e7,e8,e9]))
   | (with_reducible refine cBn (λh=>?_) (λh=>?_)<;>(try simp only[h,go_sem,e5,e6,e7,e8,e9]))
   | (with_reducible refine cB (λh=>?_) (λh=>?_)<;>(try simp only[h,go_sem,e5,e6,e7,e8,e9]))
   | (with_reducible refine gB (λh=>?_) (λh=>?_)<;>(try simp only[h,go_sem,e5,e6,e7,e8,e9])))
  all_goals(clear e1 e2 e3 e4 e5 e6 e7 e8 e9)
  all_goals first
   | (refine⟨i+1,by omega,⟨by omega,q9j (t:=t) (i:=i) (by omega) ha (by rw[hb];simp only[j02, *,Bool.or_true,Bool.true_or,Bool.not_false,Bool.and_self])⟩, ?_⟩;rw[q01 (by omega)];exact(leQ []))
   | (exact qen (t:=t) (i:=i) (by omega) (by rw[hb];simp only[j02, *,Bool.or_false,Bool.false_or,Bool.not_true,Bool.not_false,Bool.false_and,Bool.and_false,Bool.and_self]))
 ·simp only[h,go_sem]
  have:i=t.length:=by omega
  subst this
  simp only[List.take_length] at ha
  simp only[txOk,ha,Bool.true_and]
  apply decide_eq_decide.2;omega
def qqj (i:Nat) (b:UInt8):Bool:=match i with
 | 0=>decide (b=64)
 | 1=>q57 b 49
 | 2=>decide (b=58)
 | 3=>q57 b 49
 | 4=>q57 b 48
 | _=>false
theorem qpv (i:Nat) (b:UInt8):qqj i b=if(i:Int)=0 then decide ((b.toNat:Int)=64) else if(i:Int)=1 then q57 b 49 else if(i:Int)=3 then q57 b 49 else if(i:Int)=2 then decide ((b.toNat:Int)=58) else if(i:Int)=4 then q57 b 48 else false:=by
 obtain⟨_,_,_,_,e5,e6,_,_,_⟩:=qgt b
 rw[e5,e6]
 match i with
 | 0=>rfl
 | 1=>rfl
 | 2=>rfl
 | 3=>rfl
 | 4=>rfl
 | n+5=>simp only[qqj];rw[if_neg (by omega),if_neg (by omega),if_neg (by omega),if_neg (by omega),if_neg (by omega)]
def qlp:Nat→B→Bool
 | _,[]=>true
 | k,b::r=>qqj k b&&qlp (k+1) r
theorem j1f (s:B) (h:s≠[]):q6h s=qlp 0 s:=by
 rcases s with _|⟨a,_|⟨b,_|⟨c,_|⟨d,_|⟨e,_|⟨f,r⟩⟩⟩⟩⟩⟩<;>simp[q6h,qlp,qqj,Bool.and_assoc] at h ⊢
theorem qiu {s:B} {i:Nat} (h:i<s.length):qlp i (s.drop i)=(qqj i (s.getD i default)&&qlp (i+1) (s.drop (i+1))):=by
 rw[List.drop_eq_getElem_cons h]
 simp[qlp,List.getD,h]
def qw3:IC:=sR [oP 2 (.mv cF)] (.seq (sR [mV 6 0,oP 7 (.s2b (.t 6)),oP 8 (.len (.t 7)),oP 9 (.mv (.c i0))] (.block 0 (.loop (sR [bN 10 .lss 9 8] (.seq (cD 10 .skip (.exit 0)) (.seq (.block 1 (sR [mV 11 9,oP 12 (.iad 1 (.t 7) (.t 9)),lD 13 1 12,mV 3 11,mV 4 13] (sR [oP 5 (.mv cF)] (.seq (sR [mV 14 3] (.block 2 (sR [oP 16 (.bin .eql (.t 14) (.c i0)),mV 15 16] (cD 15 (.reg [mV 17 4,oP 18 (.bin .eql (.t 17) (.c (.int .u8 64))),mV 5 18]) (.seq (sR [oP 20 (.bin .eql (.t 14) (cI 1)),mV 19 20] (cD 19 .skip (.reg [oP 21 (.bin .eql (.t 14) (cI 3)),mV 19 21]))) (cD 19 (.reg [mV 22 4,oP 23 (.call 147 [.t 22,.c (.int .u8 49)]),mV 5 23]) (sR [oP 25 (.bin .eql (.t 14) (cI 2)),mV 24 25] (cD 24 (.reg [mV 26 4,oP 27 (.bin .eql (.t 26) (.c (.int .u8 58))),mV 5 27]) (sR [oP 29 (.bin .eql (.t 14) (cI 4)),mV 28 29] (cD 28 (.reg [mV 30 4,oP 31 (.call 147 [.t 30,.c (.int .u8 48)]),mV 5 31]) .skip)))))))))) (sR [mV 32 5,oP 33 (.un .not (.t 32))] (cD 33 (sR [oP 2 (.mv cF)] .ret) .skip)))))) (.reg [oP 34 (.bin .add (.t 9) (cI 1)),mV 9 34]))))))) (sR [oP 2 (.mv cT)] .ret))
theorem dg202:Dg Tryz.prog 202 Tryz.f202 qw3 [(.t 2)]:=⟨Tryz.func202,by kernel_rfl,by kernel_rfl⟩
theorem c202 (s:B) (hs:s≠[]) (hl:s.length≤2000000:=by omega):FnR Tryz.prog G 202 [.str s] (.bool (q6h s)):=by
 refine mF dg202 Tryz.ntmps202 ?_
 simp only[qw3,go_sem]
 with_reducible repeat' (first|refine br ?_ ?_<;>intro h e<;>(try simp only[e,go_sem])<;>clear e|rw[q01 (by omega)]|refine sd ?_<;>try simp only[go_sem]|fail)
 refine q0v (λi:Nat=>⟨q0i [(7,.sl 1 (s.map λb=>[.int .u8 (b.toNat:Int)])),(8,.int .i64 s.length),(9,.int .i64 (i:Int))],q0c []⟩) (λi=>s.length - i) (λi=>i≤s.length∧q6h s=qlp i (s.drop i)) 0 (leQ []) ⟨Nat.zero_le _,by simpa using j1f s hs⟩ ?_
 intro i ⟨hi,ha⟩
 simp only[go_sem]
 by_cases h:(i:Int)<s.length
 ·simp only[h,go_sem]
  refine effG (by omega) ?_
  have hst:=qiu (show i<s.length by omega)
  generalize hb:s.getD i default=b at hst ⊢
  obtain⟨_,_,_,_,e5,e6,_,_,_⟩:=qgt b
  simp only[go_sem]
  have hT:qqj i b=true→q6h s=qlp (i+1) (s.drop (i+1)):=λh1=>by rw[ha,hst,h1,Bool.true_and]
  have hF:qqj i b=false→q6h s=false:=λh1=>by rw[ha,hst,h1,Bool.false_and]
  try simp only[go_sem,e5,e6]
  with_reducible repeat' (first|refine br ?_ ?_<;>intro h e<;>(try simp only[e,go_sem])<;>clear e|rw[q01 (by omega)]|refine sd ?_<;>try simp only[go_sem]|(first|refine cr (qrf ..) ?_|refine cr (fig49 ..) ?_)<;>try simp only[go_sem]|fail)
  all_goals first
   | exact hF (by clear hF hT ha hst hb;rw[qpv];first|(simp only[*,if_false];done)|simp[*])
   | (refine⟨i+1,by omega,⟨by omega,hT (by clear hF hT ha hst hb;rw[qpv];first|(simp only[*,if_false];done)|simp[*])⟩, ?_⟩;exact(leQ []))
 ·simp only[h,go_sem]
  have:i=s.length:=by omega
  subst this
  simpa[qlp] using ha.symm
theorem qyr (b:UInt8):decide (dig b<1)=!q57 b 49:=by
 have hb:=b.toNat_lt
 have h1:(48:UInt8).toNat=48:=rfl
 have h2:(49:UInt8).toNat=49:=rfl
 have h3:(57:UInt8).toNat=57:=rfl
 simp only[dig,q57,UInt8.le_iff_toNat_le,h1,h2,h3]
 by_cases c1:49≤b.toNat<;>by_cases c2:b.toNat≤57<;>by_cases c3:48≤b.toNat<;>simp[c1,c2,c3]<;>omega
theorem qfw (b:UInt8):decide (0≤dig b)=q57 b 48:=by
 have hb:=b.toNat_lt
 have h1:(48:UInt8).toNat=48:=rfl
 have h3:(57:UInt8).toNat=57:=rfl
 simp only[dig,q57,UInt8.le_iff_toNat_le,h1,h3]
 by_cases c2:b.toNat≤57<;>by_cases c3:48≤b.toNat<;>simp[c2,c3]
 omega
def j17:IC:=sR [oP 2 (.mv cF)] (sR [mV 4 0,oP 5 (.lens (.t 4)),mV 3 5] (.seq (sR [mV 6 3,oP 7 (.call 114 [.t 6,cI 1,cI 5]),oP 8 (.un .not (.t 7)),mV 9 8,gF 10 9 (.mv (.t 0)),gF 11 9 (.idx (.t 10) (.c i0)),gF 12 9 (.bin .neq (.t 11) (.c (.int .u8 64))),pT 13 9 12,mV 14 13,gF 15 14 (.mv (.t 3)),gF 16 14 (.bin .gtr (.t 15) (cI 1)),gF 17 14 (.mv (.t 16)),gT 18 17 (.mv (.t 0)),gT 19 17 (.idx (.t 18) (cI 1)),gT 20 17 (.call 177 [.t 19]),gT 21 17 (.bin .lss (.t 20) (cI 1)),gF 22 14 (.pick (.t 17) (.t 21) cF),pT 23 14 22,mV 24 23,gF 25 24 (.mv (.t 3)),gF 26 24 (.bin .gtr (.t 25) (cI 2)),gF 27 24 (.mv (.t 26)),gT 28 27 (.mv (.t 0)),gT 29 27 (.idx (.t 28) (cI 2)),gT 30 27 (.bin .neq (.t 29) (.c (.int .u8 58))),gF 31 24 (.pick (.t 27) (.t 30) cF),pT 32 24 31,mV 33 32,gF 34 33 (.mv (.t 3)),gF 35 33 (.bin .gtr (.t 34) (cI 3)),gF 36 33 (.mv (.t 35)),gT 37 36 (.mv (.t 0)),gT 38 36 (.idx (.t 37) (cI 3)),gT 39 36 (.call 177 [.t 38]),gT 40 36 (.bin .lss (.t 39) (cI 1)),gF 41 33 (.pick (.t 36) (.t 40) cF),pT 42 33 41] (cD 42 (sR [oP 2 (.mv cF)] .ret) .skip)) (sR [mV 43 3,oP 44 (.bin .lss (.t 43) (cI 5)),mV 45 44,gF 46 45 (.mv (.t 0)),gF 47 45 (.idx (.t 46) (cI 4)),gF 48 45 (.call 177 [.t 47]),gF 49 45 (.bin .geq (.t 48) (.c i0)),pT 50 45 49,mV 2 50] .ret)))
theorem dg143:Dg Tryz.prog 143 Tryz.f143 j17 [(.t 2)]:=⟨Tryz.func143,by kernel_rfl,by kernel_rfl⟩
theorem c143 (s:B):FnR Tryz.prog G 143 [.str s] (.bool (q6h s)):=by
 refine mF dg143 Tryz.ntmps143 ?_
 simp only[j17,go_sem]
 refine q0r (qc3 ..) rfl rfl ?_
 simp only[go_sem]
 have key:q0g s.length 1 5=true→(1≤s.length∧s.length≤5):=λh=>by rw[M.within_iff] at h;omega
 cases hw:q0g s.length 1 5<;>simp only[go_sem]
 ·rcases s with _|⟨a,_|⟨b,_|⟨c,_|⟨d,_|⟨e,_|⟨f,r⟩⟩⟩⟩⟩⟩<;>first|rfl|(exfalso;simp[q0g] at hw;done)
 ·obtain⟨k1,k2⟩:=key hw
  clear key hw
  have f49:∀x,q57 x 49=!decide (dig x<1):=λx=>by rw[qyr,Bool.not_not]
  have f48:∀x,q57 x 48=decide (0≤dig x):=λx=>(qfw x).symm
  have f64:∀x:UInt8,decide (x=64)=decide ((x.toNat:Int)=64):=λx=>(qgt x).2.2.2.2.1.symm
  have f58:∀x:UInt8,decide (x=58)=decide ((x.toNat:Int)=58):=λx=>(qgt x).2.2.2.2.2.1.symm
  rcases s with _|⟨a,_|⟨b,_|⟨c,_|⟨d,_|⟨e,_|⟨f,r⟩⟩⟩⟩⟩⟩
  ·simp at k1
  ·simp only[go_sem]
   with_reducible repeat' (first|refine br ?_ ?_<;>intro h e<;>(try simp only[e,go_sem])<;>clear e|rw[q01 (by omega)]|refine sd ?_<;>try simp only[go_sem]|(first|refine cr (qpf ..) ?_)<;>try simp only[go_sem]|fail)
   all_goals first|omega|(simp only[q6h,f49,f48,f58,f64];simp_all)
  ·simp only[go_sem]
   with_reducible repeat' (first|refine br ?_ ?_<;>intro h e<;>(try simp only[e,go_sem])<;>clear e|rw[q01 (by omega)]|refine sd ?_<;>try simp only[go_sem]|(first|refine cr (qpf ..) ?_)<;>try simp only[go_sem]|fail)
   all_goals first|omega|(simp only[q6h,f49,f48,f58,f64];simp_all)
  ·simp only[go_sem]
   with_reducible repeat' (first|refine br ?_ ?_<;>intro h e<;>(try simp only[e,go_sem])<;>clear e|rw[q01 (by omega)]|refine sd ?_<;>try simp only[go_sem]|(first|refine cr (qpf ..) ?_)<;>try simp only[go_sem]|fail)
   all_goals first|omega|(simp only[q6h,f49,f48,f58,f64];simp_all)
  ·simp only[go_sem]
   with_reducible repeat' (first|refine br ?_ ?_<;>intro h e<;>(try simp only[e,go_sem])<;>clear e|rw[q01 (by omega)]|refine sd ?_<;>try simp only[go_sem]|(first|refine cr (qpf ..) ?_)<;>try simp only[go_sem]|fail)
   all_goals first|omega|(simp only[q6h,f49,f48,f58,f64];simp_all)
  ·simp only[go_sem]
   with_reducible repeat' (first|refine br ?_ ?_<;>intro h e<;>(try simp only[e,go_sem])<;>clear e|rw[q01 (by omega)]|refine sd ?_<;>try simp only[go_sem]|(first|refine cr (qpf ..) ?_)<;>try simp only[go_sem]|fail)
   all_goals first|omega|(simp only[q6h,f49,f48,f58,f64];simp_all)
  ·simp at k2
theorem qa5 {t:B} {k:Nat} (h:k+1≤t.length):q3s t (k+1)=if q6h (t.drop (t.length - (k+1))) then k+1 else q3s t k:=by
 simp[q3s,h]
theorem qfg (t:B):q6a t=q3s t (min 5 t.length):=by
 have:∀n,q3s t (t.length+n)=q3s t t.length:=λn=>by
  induction n with
  | zero=>rfl
  | succ n ih=>rw[←Nat.add_assoc,q3s,ih];simp;omega
 by_cases h:5≤t.length
 ·rw[Nat.min_eq_left h];rfl
 ·rw[Nat.min_eq_right (by omega),q6a]
  have:=this (5 - t.length)
  rwa [show t.length+(5 - t.length)=5 by omega] at this
theorem qf6 (t:B):∀n,q3s t n≤n∧q3s t n≤t.length
 | 0=>⟨Nat.le_refl _,Nat.zero_le _⟩
 | n+1=>by
   have:=qf6 t n
   simp only[q3s]
   split
   ·rename_i h;simp at h;omega
   ·omega
theorem qkc (t:B):q6a t≤5∧q6a t≤t.length:=qf6 t 5
def qvp:IC:=sR [oP 2 (.mv (.c i0))] (.seq (sR [mV 4 0,oP 5 (.lens (.t 4)),oP 6 (.mn (cI 5) (.t 5)),mV 3 6] (.block 0 (.loop (.seq (sR [mV 7 3,oP 8 (.bin .gtr (.t 7) (.c i0))] (cD 8 .skip (.exit 0))) (.seq (.block 1 (sR [mV 11 0,mV 12 0,oP 13 (.lens (.t 12)),mV 14 3,bN 15 .sub 13 14,oP 16 (.sls (.t 11) (some (.t 15)) none),oP 17 (.call 202 [.t 16])] (cD 17 (sR [mV 18 3,mV 2 18] .ret) .skip))) (.reg [mV 9 3,oP 10 (.bin .sub (.t 9) (cI 1)),mV 3 10])))))) (sR [oP 2 (.mv (.c i0))] .ret))
theorem dg165:Dg Tryz.prog 165 Tryz.f165 qvp [(.t 2)]:=⟨Tryz.func165,by kernel_rfl,by kernel_rfl⟩
theorem c165 (t:B) (hl:t.length≤2000000:=by omega):FnR Tryz.prog G 165 [.str t] (.int .i64 (q6a t)):=by
 refine mF dg165 Tryz.ntmps165 ?_
 simp only[qvp,go_sem]
 refine q0v (λk:Nat=>⟨q0i [(0,.str t),(3,.int .i64 (k:Int))],q0c []⟩) (λk=>k) (λk=>k≤t.length∧q6a t=q3s t k) (min 5 t.length) (leQ []) ⟨Nat.min_le_right _ _,qfg t⟩ ?_
 intro k ⟨hk,ha⟩
 simp only[go_sem]
 by_cases h:(0:Int)<k
 ·simp only[eq_true h,go_sem]
  with_reducible repeat' (first|refine br ?_ ?_<;>intro h e<;>(try simp only[e,go_sem])<;>clear e|rw[q01 (by omega)]|refine sd ?_<;>try simp only[go_sem]|fail)
  have e:((t.length:Int) - (k:Int)).toNat=t.length - k:=by omega
  obtain⟨k,rfl⟩:∃m,k=m+1:=⟨k - 1,by omega⟩
  simp only[e,go_sem,List.take_length]
  have hst:=qa5 hk
  refine q0r (c202 _ (by intro h;have:=congrArg List.length h;simp at this;omega) (by simp;omega)) rfl rfl ?_
  simp only[go_sem]
  with_reducible repeat' (first|refine br ?_ ?_<;>intro h e<;>(try simp only[e,go_sem])<;>clear e|rw[q01 (by omega)]|refine sd ?_<;>try simp only[go_sem]|fail)
  ·rw[ha,hst,if_pos h]
  ·refine⟨k,by omega,⟨by omega,by rw[ha,hst,h];rfl⟩,(leQ [])⟩
 ·simp only[eq_false h,go_sem]
  have:k=0:=by omega
  subst this
  rw[ha];rfl
def ic93:IC:=sR [oP 2 (.mv (.c i0))] (.seq (sR [mV 4 0,oP 5 (.lens (.t 4)),oP 6 (.mn (cI 5) (.t 5)),mV 3 6] (.block 0 (.loop (.seq (sR [mV 7 3,oP 8 (.bin .gtr (.t 7) (.c i0))] (cD 8 .skip (.exit 0))) (.seq (.block 1 (sR [mV 11 0,mV 12 0,oP 13 (.lens (.t 12)),mV 14 3,bN 15 .sub 13 14,oP 16 (.sls (.t 11) (some (.t 15)) none),oP 17 (.call 143 [.t 16])] (cD 17 (sR [mV 18 3,mV 2 18] .ret) .skip))) (.reg [mV 9 3,oP 10 (.bin .sub (.t 9) (cI 1)),mV 3 10])))))) (sR [oP 2 (.mv (.c i0))] .ret))
theorem dg93:Dg Tryz.prog 93 Tryz.f93 ic93 [(.t 2)]:=⟨Tryz.func93,by kernel_rfl,by kernel_rfl⟩
theorem c93 (t:B) (hl:t.length≤2000000:=by omega):FnR Tryz.prog G 93 [.str t] (.int .i64 (q6a t)):=by
 refine mF dg93 Tryz.ntmps93 ?_
 simp only[ic93,go_sem]
 refine q0v (λk:Nat=>⟨q0i [(0,.str t),(3,.int .i64 (k:Int))],q0c []⟩) (λk=>k) (λk=>k≤t.length∧q6a t=q3s t k) (min 5 t.length) (leQ []) ⟨Nat.min_le_right _ _,qfg t⟩ ?_
 intro k ⟨hk,ha⟩
 simp only[go_sem]
 by_cases h:(0:Int)<k
 ·simp only[eq_true h,go_sem]
  with_reducible repeat' (first|refine br ?_ ?_<;>intro h e<;>(try simp only[e,go_sem])<;>clear e|rw[q01 (by omega)]|refine sd ?_<;>try simp only[go_sem]|fail)
  have e:((t.length:Int) - (k:Int)).toNat=t.length - k:=by omega
  obtain⟨k,rfl⟩:∃m,k=m+1:=⟨k - 1,by omega⟩
  simp only[e,go_sem,List.take_length]
  have hst:=qa5 hk
  with_reducible repeat' (first|refine br ?_ ?_<;>intro h e<;>(try simp only[e,go_sem])<;>clear e|rw[q01 (by omega)]|refine sd ?_<;>try simp only[go_sem]|(first|refine cr (c143 ..) ?_)<;>try simp only[go_sem]|fail)
  ·rw[ha,hst,if_pos h]
  ·refine⟨k,by omega,⟨by omega,by rw[ha,hst,h];rfl⟩,(leQ [])⟩
 ·simp only[eq_false h,go_sem]
  have:k=0:=by omega
  subst this
  rw[ha];rfl
theorem qko {a p:Int} (h:E.any ⟨a,p⟩=true):(0≤a∧a<100)∧(0≤p∧p<100):=by
 obtain⟨h1,h2,_⟩:=qhs _ (E.any_iff.1 h)
 exact⟨h1,h2⟩
theorem q2t {e:E}:e.text.length≤4:=by
 by_cases h:e.any=true
 ·rw[q83 h];split<;>omega
 ·simp[E.text,h]
def ic92:IC:=sR [oP 1 (.box 63 (.t 0)),oP 2 (.mv (.c s0))] (.seq (sR [lA 3 2 1,oP 4 (.call 142 [.t 3]),oP 5 (.un .not (.t 4))] (cD 5 (sR [oP 2 (.mv (.c s0))] .ret) .skip)) (.seq (.drw [0,1,3,7,0,16,55,127,255] [(0,fD 6 0 1),(1,lD 7 1 6),(2,oP 8 (.call 89 [.t 7])),(3,oP 9 (.bin .add (.t 8) (.c (.str [58])))),(4,fD 10 1 1),(5,lD 11 1 10),(6,oP 12 (.call 89 [.t 11])),(7,bN 13 .add 9 12),(8,mV 2 13)]) .ret))
theorem dg92:Dg Tryz.prog 92 Tryz.f92 ic92 [(.t 2)]:=⟨Tryz.func92,by kernel_rfl,by kernel_rfl⟩
theorem c92 (a p:Int):FnR Tryz.prog G 92 [.agg [.int .i64 a,.int .i64 p]] (.str (E.text ⟨a,p⟩)):=by
 refine mF dg92 Tryz.ntmps92 ?_
 simp only[ic92,go_sem]
 refine q0r (c142 ..) rfl rfl ?_
 have d1:=qbw a
 have d2:=qbw p
 cases h:E.any ⟨a,p⟩<;>simp only[go_sem]
 ·simp[E.text,h]
 ·obtain⟨h1,h2⟩:=qko h
  repeat' (first
   | (with_reducible refine chkI ?_ ?_;· kernel_rfl;try simp only[go_sem])
   | (with_reducible refine pureG (by simp;omega) ?_;try simp only[go_sem])
   | (refine q0r (c89 _ (by omega)) rfl rfl ?_;try simp only[go_sem]))
  simp[E.text,h]
def qvn:IC:=sR [oP 1 (.box 63 (.t 0)),oP 2 (.mv (.c s0))] (.seq (sR [lA 3 2 1,oP 4 (.call 133 [.t 3]),oP 5 (.un .not (.t 4))] (cD 5 (sR [oP 2 (.mv (.c s0))] .ret) .skip)) (.seq (.drw [0,1,3,7,0,16,55,127,255] [(0,fD 6 0 1),(1,lD 7 1 6),(2,oP 8 (.call 49 [.t 7])),(3,oP 9 (.bin .add (.t 8) (.c (.str [58])))),(4,fD 10 1 1),(5,lD 11 1 10),(6,oP 12 (.call 49 [.t 11])),(7,bN 13 .add 9 12),(8,mV 2 13)]) .ret))
theorem dg102:Dg Tryz.prog 102 Tryz.f102 qvn [(.t 2)]:=⟨Tryz.func102,by kernel_rfl,by kernel_rfl⟩
theorem qv4 (a p:Int):FnR Tryz.prog G 102 [.agg [.int .i64 a,.int .i64 p]] (.str (E.text ⟨a,p⟩)):=by
 refine mF dg102 Tryz.ntmps102 ?_
 simp only[qvn,go_sem]
 refine q0r (c133 ..) rfl rfl ?_
 have d1:=qbw a
 have d2:=qbw p
 cases h:E.any ⟨a,p⟩<;>simp only[go_sem]
 ·simp[E.text,h]
 ·obtain⟨h1,h2⟩:=qko h
  repeat' (first
   | (with_reducible refine chkI ?_ ?_;· kernel_rfl;try simp only[go_sem])
   | (with_reducible refine pureG (by simp;omega) ?_;try simp only[go_sem])
   | (refine q0r (c49 _ (by omega)) rfl rfl ?_;try simp only[go_sem]))
  simp[E.text,h]
def qxq:IC:=sR [oP 1 (.box 63 (.t 0)),oP 2 (.mv (.c s0))] (sR [lA 3 2 1,oP 4 (.call 102 [.t 3]),oP 5 (.bin .add (.c (.str [64])) (.t 4)),oP 6 (.bin .add (.t 5) (.c (.str [59]))),mV 2 6] .ret)
theorem dg264:Dg Tryz.prog 264 Tryz.f264 qxq [(.t 2)]:=⟨Tryz.func264,by kernel_rfl,by kernel_rfl⟩
theorem c264 (a p:Int):FnR Tryz.prog G 264 [.agg [.int .i64 a,.int .i64 p]] (.str (name ⟨a,p⟩)):=by
 refine mF dg264 Tryz.ntmps264 ?_
 simp only[qxq,go_sem]
 have d:=q2t (e:=⟨a,p⟩)
 refine q0r (qv4 ..) rfl rfl ?_
 simp only[go_sem]
 repeat' (with_reducible refine pureG (by simp;omega) ?_;try simp only[go_sem])
 simp[name]
theorem qaf {t:B} {a p:Int} (h:E.text ⟨a,p⟩=t) (h1:E.any ⟨a,p⟩=true):q08 t=some ⟨a,p⟩:=by rw[←h];exact q28 h1
def q6w (t:B) (i:Nat):Int:=if i≤2 then 0 else if i=3 then dig (t.getD 2 0) else 10*dig (t.getD 2 0)+dig (t.getD 3 0)
theorem qm6:∀e∈qg7,dig (e.text.getD 0 0)=e.a∧q6w e.text e.text.length=e.p:=by decide
theorem q7c (b:UInt8) : -1≤dig b∧dig b≤9:=by
 unfold dig q57
 split
 ·rename_i h
  simp only[UInt8.le_iff_toNat_le,Bool.and_eq_true,decide_eq_true_eq] at h
  have h1:(48:UInt8).toNat=48:=rfl
  have h3:(57:UInt8).toNat=57:=rfl
  omega
 ·omega
def qv8:IC:=sR [oP 2 (.alloc 63 [i0,i0]),oP 3 (.mv cF)] (sR [mV 7 0,oP 8 (.lens (.t 7)),mV 4 8] (.seq (sR [mV 9 4,oP 10 (.call 114 [.t 9,cI 3,cI 4]),oP 11 (.un .not (.t 10))] (cD 11 (sR [oP 12 (.build [i0,i0] []),nP (.sto 2 (.t 2) (.t 12)),oP 3 (.mv cF)] .ret) .skip)) (sR [mV 13 0,oP 14 (.idx (.t 13) (.c i0)),oP 15 (.call 177 [.t 14]),oP 16 (.build [i0,i0] [(0,(1,.t 15))]),oP 5 (.alloc 63 [i0,i0]),nP (.sto 2 (.t 5) (.t 16))] (.seq (sR [oP 6 (.mv (cI 2))] (.block 0 (.loop (.seq (sR [mV 17 6,mV 18 4,bN 19 .lss 17 18] (cD 19 .skip (.exit 0))) (.seq (.block 1 (.drw [0,1,3,0,0,24,56,127,255,511] [(0,fD 22 1 5),(1,lD 23 1 22),(2,oP 24 (.bin .mul (cI 10) (.t 23))),(3,mV 25 0),(4,mV 26 6),(5,oP 27 (.idx (.t 25) (.t 26))),(6,oP 28 (.call 177 [.t 27])),(7,bN 29 .add 24 28),(8,fD 30 1 5),(9,nP (.sto 1 (.t 30) (.t 29)))])) (.reg [mV 20 6,oP 21 (.bin .add (.t 20) (cI 1)),mV 6 21])))))) (.seq (sR [lA 31 2 5,oP 32 (.call 92 [.t 31]),mV 33 0,bN 34 .neq 32 33] (cD 34 (sR [oP 35 (.build [i0,i0] []),nP (.sto 2 (.t 2) (.t 35)),oP 3 (.mv cF)] .ret) .skip)) (sR [lA 36 2 5,nP (.sto 2 (.t 2) (.t 36)),oP 3 (.mv cT)] .ret))))))
theorem dg156:Dg Tryz.prog 156 Tryz.f156 qv8 [(.cell 2 2 true),(.t 3)]:=⟨Tryz.func156,by kernel_rfl,by kernel_rfl⟩
theorem j1c (t:B) (hl:t.length≤2000000:=by omega):FnR Tryz.prog G 156 [.str t] (rdV (q08 t)):=by
 refine mF dg156 Tryz.ntmps156 ?_
 have hlen:∀e,q08 t=some e→3≤t.length∧t.length≤4:=λe he=>by
  obtain⟨h1,h2⟩:=q1r he
  have:=q83 h1
  rw[h2] at this
  split at this<;>omega
 simp only[qv8,go_sem]
 refine q0r (qc3 ..) rfl rfl ?_
 simp only[go_sem]
 cases hw:q0g t.length 3 4<;>simp only[go_sem]
 ·have:q08 t=none:=by
   cases h:q08 t with
   | none=>rfl
   | some e =>
     have:=hlen e h
     have:q0g t.length 3 4=true:=M.within_iff.2 (by omega)
     rw[hw] at this;cases this
  simp[this,rdV,go_sem,E.zero]
 ·rw[M.within_iff] at hw
  with_reducible repeat' (first|refine br ?_ ?_<;>intro h e<;>(try simp only[e,go_sem])<;>clear e|rw[q01 (by omega)]|refine sd ?_<;>try simp only[go_sem]|(first|refine cr (qpf ..) ?_)<;>try simp only[go_sem]|fail)
  refine q0v (λi:Nat=>⟨q0i [(0,.str t),(2,.pv 1002 0),(4,.int .i64 t.length),(5,.pv 1005 0),(6,.int .i64 (i:Int))],q0c [(1002,.var 63 [.int .i64 0,.int .i64 0]),(1005,.var 63 [.int .i64 (dig (t.getD 0 0)),.int .i64 (q6w t i)])]⟩) (λi=>t.length - i) (λi=>2≤i∧i≤t.length) 2 (leQ []) ⟨by omega,by omega⟩ ?_
  intro i ⟨hi,hil⟩
  simp only[go_sem]
  have dr:=q7c (t.getD i 0)
  have dr2:=q7c (t.getD 2 0)
  have pi:i<t.length → -10≤q6w t i∧q6w t i≤9∧q6w t (i+1)=10*q6w t i+dig (t.getD i 0):=λh=>by
   have:i=2∨i=3:=by omega
   rcases this with rfl|rfl<;>simp[q6w] at dr dr2 ⊢<;>omega
  by_cases h:(i:Int)<t.length
  ·simp only[eq_true h,go_sem]
   obtain⟨p1,p2,p3⟩:=pi (by omega)
   with_reducible repeat' (first|refine br ?_ ?_<;>intro h e<;>(try simp only[e,go_sem])<;>clear e|rw[q01 (by omega)]|refine sd ?_<;>try simp only[go_sem]|(first|refine cr (qpf ..) ?_)<;>try simp only[go_sem]|fail)
   refine⟨i+1,by omega,⟨by omega,by omega⟩,(leQ [])⟩
  ·simp only[eq_false h,go_sem]
   have:i=t.length:=by omega
   subst this
   refine q0r (c92 ..) rfl rfl ?_
   simp only[go_sem]
   with_reducible repeat' (first|refine br ?_ ?_<;>intro h e<;>(try simp only[e,go_sem])<;>clear e|rw[q01 (by omega)]|refine sd ?_<;>try simp only[go_sem]|fail)
   ·have ha:E.any ⟨dig (t.getD 0 0),q6w t t.length⟩=true:=by
     cases hc:E.any ⟨dig (t.getD 0 0),q6w t t.length⟩ with
     | true=>rfl
     | false =>
       exfalso
       simp only[E.text,hc] at h
       rw[←h] at hw
       simp at hw
    simp[qaf h ha,rdV,go_sem]
   ·have hn:q08 t=none:=by
     cases hr:q08 t with
     | none=>rfl
     | some e =>
       exfalso
       obtain⟨e1,e2⟩:=q1r hr
       obtain⟨d1,d2⟩:=qm6 e (E.any_iff.1 e1)
       rw[e2] at d1 d2
       rw[d1,d2] at h
       exact h e2
    simp[hn,rdV,go_sem,E.zero]
def qw0:IC:=sR [oP 2 (.alloc 63 [i0,i0]),oP 3 (.mv cF)] (sR [mV 13 0,oP 14 (.call 46 [.t 13,.c (.str [58])]),mV 12 14,eX 15 12 0,eX 16 12 1,eX 17 12 2,mV 4 15,mV 5 16,mV 6 17] (sR [mV 19 4,oP 20 (.call 149 [.t 19]),mV 18 20,eX 21 18 0,eX 22 18 1,mV 7 21,mV 8 22] (sR [mV 24 5,oP 25 (.call 149 [.t 24]),mV 23 25,eX 26 23 0,eX 27 23 1,mV 9 26,mV 10 27] (sR [mV 28 7,mV 29 9,oP 30 (.build [i0,i0] [(0,(1,.t 28)),(1,(1,.t 29))]),oP 11 (.alloc 63 [i0,i0]),nP (.sto 2 (.t 11) (.t 30))] (.seq (sR [mV 31 8,oP 32 (.isn true (.t 31)),mV 33 32,gF 34 33 (.mv (.t 10)),gF 35 33 (.isn true (.t 34)),pT 36 33 35,mV 37 36,gF 38 37 (.ld 2 true (.t 11)),gF 39 37 (.call 133 [.t 38]),gF 40 37 (.un .not (.t 39)),pT 41 37 40,mV 42 41,gF 43 42 (.ld 2 true (.t 11)),gF 44 42 (.call 102 [.t 43]),gF 45 42 (.mv (.t 0)),gF 46 42 (.bin .neq (.t 44) (.t 45)),pT 47 42 46] (cD 47 (sR [oP 48 (.build [i0,i0] []),nP (.sto 2 (.t 2) (.t 48)),oP 3 (.mv cF)] .ret) .skip)) (sR [lA 49 2 11,nP (.sto 2 (.t 2) (.t 49)),oP 3 (.mv cT)] .ret))))))
theorem dg148:Dg Tryz.prog 148 Tryz.f148 qw0 [(.cell 2 2 true),(.t 3)]:=⟨Tryz.func148,by kernel_rfl,by kernel_rfl⟩
theorem qyz (t:B) (hl:t.length≤2000000:=by omega):FnR Tryz.prog G 148 [.str t] (rdV (q08 t)):=by
 refine mF dg148 Tryz.ntmps148 ?_
 simp only[qw0,go_sem]
 refine q0r (c46 t 58) rfl rfl ?_
 simp only[go_sem]
 have hcl:(q81 t 58).1.length≤2000000∧(q81 t 58).2.1.length≤2000000:=by
  have:=qg9 t 58
  omega
 have hr:∀e,q08 t=some e→(q81 t 58).1=dec e.a∧(q81 t 58).2.1=dec e.p∧(0≤e.a∧e.a<100)∧(0≤e.p∧e.p<100):=λe he=>by
  obtain⟨h1,h2,h3⟩:=qem he
  rw[h1];exact⟨rfl,rfl,h2,h3⟩
 refine qi2 (qui _ (by omega)) rfl (λr o hp=>⟨by rcases hp.2 with⟨n,rfl,_⟩|⟨n,rfl,_⟩<;>rfl,hp.1⟩) (λr1 hp1=>?_)
 rcases hp1.2 with⟨n1,rfl,hn1⟩|⟨n1,rfl,hn1⟩<;>simp only[go_sem] <;>
  (refine qi2 (qui _ (by omega)) rfl (λr o hp=>⟨by rcases hp.2 with⟨n,rfl,_⟩|⟨n,rfl,_⟩<;>rfl,hp.1⟩) (λr2 hp2=>?_)
   rcases hp2.2 with⟨n2,rfl,hn2⟩|⟨n2,rfl,hn2⟩<;>simp only[go_sem])
 ·have hx:∀e,q08 t=some e→n1=e.a∧n2=e.p:=λe he=>by
   obtain⟨a1,a2,a3,a4⟩:=hr e he
   exact⟨hn1 _ a3.1 a3.2 a1,hn2 _ a4.1 a4.2 a2⟩
  with_reducible repeat' (first|refine br ?_ ?_<;>intro h e<;>(try simp only[e,go_sem])<;>clear e|rw[q01 (by omega)]|refine sd ?_<;>try simp only[go_sem]|(first|refine cr (c133 ..) ?_|refine cr (qv4 ..) ?_)<;>try simp only[go_sem]|fail)
  ·have hn:q08 t=none:=by
    cases hr2:q08 t with
    | none=>rfl
    | some e =>
      exfalso
      obtain⟨rfl,rfl⟩:=hx e hr2
      rw[(q1r hr2).1] at h
      cases h
   simp[hn,rdV,go_sem,E.zero]
  ·rename_i ha
   simp[qaf h (by simpa using ha),rdV,go_sem]
  ·have hn:q08 t=none:=by
    cases hr2:q08 t with
    | none=>rfl
    | some e =>
      exfalso
      obtain⟨rfl,rfl⟩:=hx e hr2
      exact h (q1r hr2).2
   simp[hn,rdV,go_sem,E.zero]
 all_goals
  have hn:q08 t=none:=by
   cases hr2:q08 t with
   | none=>rfl
   | some e =>
     exfalso
     obtain⟨a1,a2,a3,a4⟩:=hr e hr2
     first|exact hn1 _ a3.1 a3.2 a1|exact hn2 _ a4.1 a4.2 a2
  simp[hn,rdV,go_sem,E.zero]
def qyw:IC:=sR [oP 2 (.alloc 63 [i0,i0]),oP 3 (.mv (.c i0))] (.seq (sR [oP 4 (.mv (cI 5))] (.block 0 (.loop (.seq (sR [mV 7 4,oP 8 (.bin .leq (.t 7) (cI 6)),mV 9 8,gT 10 9 (.mv (.t 4)),gT 11 9 (.mv (.t 0)),gT 12 9 (.lens (.t 11)),gT 13 9 (.bin .leq (.t 10) (.t 12)),pF 14 9 13] (cD 14 .skip (.exit 0))) (.seq (.block 1 (sR [mV 17 0,oP 18 (.idx (.t 17) (.c i0)),oP 19 (.bin .eql (.t 18) (.c (.int .u8 64))),mV 20 19,gT 21 20 (.mv (.t 0)),gT 22 20 (.mv (.t 4)),gT 23 20 (.bin .sub (.t 22) (cI 1)),gT 24 20 (.idx (.t 21) (.t 23)),gT 25 20 (.bin .eql (.t 24) (.c (.int .u8 59))),pF 26 20 25] (cD 26 (sR [mV 28 0,mV 29 4,oP 30 (.bin .sub (.t 29) (cI 1)),oP 31 (.sls (.t 28) (some (cI 1)) (some (.t 30))),oP 32 (.call 156 [.t 31]),mV 27 32,eX 33 27 0,eX 34 27 1,oP 5 (.alloc 63 [i0,i0]),nP (.sto 2 (.t 5) (.t 33)),mV 6 34] (sR [mV 35 6] (cD 35 (sR [lA 36 2 5,mV 37 4,nP (.sto 2 (.t 2) (.t 36)),mV 3 37] .ret) .skip))) .skip))) (.reg [mV 15 4,oP 16 (.bin .add (.t 15) (cI 1)),mV 4 16])))))) (sR [oP 38 (.build [i0,i0] []),nP (.sto 2 (.t 2) (.t 38)),oP 3 (.mv (.c i0))] .ret))
theorem dg257:Dg Tryz.prog 257 Tryz.f257 qyw [(.cell 2 2 true),(.t 3)]:=⟨Tryz.func257,by kernel_rfl,by kernel_rfl⟩
theorem q5q {s:B} {e:E} (h:q19 s=some e):∃k,(k=3∨k=4)∧e.text.length=k∧s.getD 0 0=64∧s.getD (k+1) 0=59∧(s.take (k+1)).drop 1=e.text∧k+2≤s.length:=by
 obtain⟨h1,r,rfl⟩:=q2i h
 have hl:=q83 h1
 refine⟨e.text.length,by rw[hl];split<;>simp,rfl,by simp[name], ?_, ?_, ?_⟩
 ·simp[name,List.getD]
 ·simp[name]
 ·simp[name]
theorem qkr {s:B} {e:E} {k:Nat} (h0:s.getD 0 0=64) (h1:s.getD (k+1) 0=59) (h2:q08 ((s.take (k+1)).drop 1)=some e) (hl:k+2≤s.length):q19 s=some e:=by
 obtain⟨c,r,rfl⟩:∃c r,s=c::r:=by cases s with|nil=>simp at hl|cons c r=>exact⟨c,r,rfl⟩
 obtain⟨a1,a2⟩:=q1r h2
 simp only[List.getD_cons_zero] at h0
 subst h0
 simp only[List.getD_cons_succ,zC,List.take_succ_cons,List.drop_succ_cons,List.drop_zero] at h1 h2 hl a2
 have:(64::r:B)=name e++r.drop (k+1):=by
  simp only[name,a2,List.cons_append,List.cons.injEq,true_and,List.append_assoc]
  have hk:r[k]?=some 59:=by
   have:k<r.length:=by omega
   simp[List.getD,this] at h1 ⊢
   exact h1
  conv=>lhs;rw[←List.take_append_drop k r]
  congr 1
  rw[List.drop_eq_getElem_cons (show k<r.length by omega)]
  simp[zE (show k<r.length by omega)] at hk
  simp[hk]
 rw[this]
 exact q6d a1 _
theorem c257 (s:B) (hs:s≠[]) (hl:s.length≤2000000:=by omega):FnR Tryz.prog G 257 [.str s] (.tup [.agg [.int .i64 ((q19 s).getD .zero).a,.int .i64 ((q19 s).getD .zero).p],.int .i64 (match q19 s with|some e=>(name e).length|none=>0)]):=by
 refine mF dg257 Tryz.ntmps257 ?_
 simp only[qyw,go_sem]
 have hp:1≤s.length:=List.length_pos_iff.2 hs
 refine q0v (λi:Nat=>⟨q0i [(0,.str s),(2,.pv 1002 0),(4,.int .i64 (i:Int))],q0c [(1002,.var 63 [.int .i64 0,.int .i64 0])]⟩) (λi=>7 - i) (λi=>5≤i∧i≤7∧∀e,q19 s=some e→i≤e.text.length+2) 5 (leQ []) ⟨by omega,by omega,λe he=>by obtain⟨k,h1,h2,_⟩:=q5q he;omega⟩ ?_
 intro i ⟨h5,h7,hn⟩
 simp only[go_sem]
 obtain⟨k,rfl⟩:∃k,i=k+2:=⟨i - 2,by omega⟩
 have e2:(((k+2:Nat):Int) - 1).toNat=k+1:=by omega
 with_reducible repeat' (first|refine br ?_ ?_<;>intro h e<;>(try simp only[e,go_sem])<;>clear e|rw[q01 (by omega)]|refine sd ?_<;>try simp only[go_sem]|fail)
 ·rename_i g0
  simp only[e2] at *
  refine q0r (j1c _ (by simp;omega)) rfl rfl ?_
  simp only[go_sem]
  have g1:s.getD 0 0=64:=UInt8.toNat_inj.1 (Int.ofNat_inj.1 g0)
  have g2:s.getD (k+1) 0=59:=UInt8.toNat_inj.1 (Int.ofNat_inj.1 h)
  have hk:k+2≤s.length:=by omega
  cases hr:q08 ((s.take (k+1)).drop 1) with
  | some e =>
    have he:=qkr g1 g2 hr hk
    obtain⟨a1,a2⟩:=q1r hr
    simp only[go_sem,Option.isSome_some,he,Option.getD_some]
    have:(name e).length=k+2:=by rw[name];simp[a2];omega
    simp[this]
  | none =>
    simp only[go_sem,Option.isSome_none]
    with_reducible repeat' (first|refine br ?_ ?_<;>intro h e<;>(try simp only[e,go_sem])<;>clear e|rw[q01 (by omega)]|refine sd ?_<;>try simp only[go_sem]|fail)
    refine⟨k+3,by omega,⟨by omega,by omega,λe he=>?_⟩,(leQ [])⟩
    obtain⟨k',b1,b2,b3,b4,b5,b6⟩:=q5q he
    have:=hn e he
    rcases Nat.lt_or_ge k k' with h|h
    ·omega
    ·exfalso
     have:k'=k:=by omega
     subst this
     rw[b5,q28 (q2i he).1] at hr
     cases hr
 ·refine⟨k+3,by omega,⟨by omega,by omega,λe he=>?_⟩,(leQ [])⟩
  obtain⟨k',b1,b2,b3,b4,b5,b6⟩:=q5q he
  have:=hn e he
  rcases Nat.lt_or_ge k k' with h|h
  ·omega
  ·exfalso
   have:k'=k:=by omega
   subst this
   rename_i hq
   rw[e2,b4] at hq
   exact absurd rfl hq
 ·refine⟨k+3,by omega,⟨by omega,by omega,λe he=>?_⟩,(leQ [])⟩
  obtain⟨k',b1,b2,b3,b4,b5,b6⟩:=q5q he
  rw[b3] at h
  exact absurd rfl h
 ·have:q19 s=none:=by
   cases hq:q19 s with
   | none=>rfl
   | some e =>
     obtain⟨k',b1,b2,b3,b4,b5,b6⟩:=q5q hq
     have:=hn e hq
     omega
  simp[this,E.zero]
 ·have:q19 s=none:=by
   cases hq:q19 s with
   | none=>rfl
   | some e =>
     obtain⟨k',b1,b2,b3,b4,b5,b6⟩:=q5q hq
     have:=hn e hq
     omega
  simp[this,E.zero]
def j08:IC:=sR [oP 2 (.alloc 63 [i0,i0]),oP 3 (.mv cF)] (sR [mV 10 0,oP 11 (.call 46 [.t 10,.c (.str [59])]),mV 9 11,eX 12 9 0,eX 13 9 1,eX 14 9 2,mV 4 12,mV 5 13,mV 6 14] (sR [mV 16 4,oP 17 (.call 148 [.t 16]),mV 15 17,eX 18 15 0,eX 19 15 1,oP 7 (.alloc 63 [i0,i0]),nP (.sto 2 (.t 7) (.t 18)),mV 8 19] (sR [lA 20 2 7,mV 21 6,mV 22 21,gT 23 22 (.mv (.t 8)),pF 24 22 23,nP (.sto 2 (.t 2) (.t 20)),mV 3 24] .ret)))
theorem dg263:Dg Tryz.prog 263 Tryz.f263 j08 [(.cell 2 2 true),(.t 3)]:=⟨Tryz.func263,by kernel_rfl,by kernel_rfl⟩
def rdN (s:B):Option E:=if 59∈s then q08 (s.takeWhile λb=>decide (b≠59)) else none
theorem c263 (s:B) (hl:s.length≤2000000:=by omega):FnR Tryz.prog G 263 [.str s] (.tup [.agg [.int .i64 ((q08 (q81 s 59).1).getD .zero).a,.int .i64 ((q08 (q81 s 59).1).getD .zero).p],.bool (rdN s).isSome]):=by
 refine mF dg263 Tryz.ntmps263 ?_
 simp only[j08,go_sem]
 refine q0r (c46 s 59) rfl rfl ?_
 simp only[go_sem]
 have:=qg9 s 59
 refine q0r (qyz (q81 s 59).1 (by omega)) rfl rfl ?_
 simp only[go_sem]
 with_reducible repeat' (first|refine br ?_ ?_<;>intro h e<;>(try simp only[e,go_sem])<;>clear e|rw[q01 (by omega)]|refine sd ?_<;>try simp only[go_sem]|fail)
 all_goals(simp only[q81] at *;split at h<;>rename_i hm<;>simp_all[rdN])
def j1l:IC:=sR [oP 2 (.alloc 193 [i0,.bool false,i0,i0])] (.seq (sR [mV 8 0,oP 9 (.call 262 [.t 8,.c (.str [64])]),mV 7 9,eX 10 7 0,eX 11 7 1,mV 3 10,mV 4 11] (sR [mV 12 4] (cD 12 (sR [mV 14 3,oP 15 (.call 263 [.t 14]),mV 13 15,eX 16 13 0,eX 17 13 1,oP 5 (.alloc 63 [i0,i0]),nP (.sto 2 (.t 5) (.t 16)),mV 6 17] (sR [mV 18 6] (cD 18 (.seq (.drw [0,1,3,0,15,31] [(0,lA 19 2 5),(1,oP 20 (.call 264 [.t 19])),(2,oP 21 (.lens (.t 20))),(3,lA 22 2 5),(4,oP 23 (.build [i0,.bool false,i0,i0] [(0,(1,.t 21)),(1,(1,cT)),(2,(2,.t 22))])),(5,nP (.sto 4 (.t 2) (.t 23)))]) .ret) .skip))) .skip))) (sR [oP 24 (.build [i0,.bool false,i0,i0] [(0,(1,cI 1))]),nP (.sto 4 (.t 2) (.t 24))] .ret))
theorem dg242:Dg Tryz.prog 242 Tryz.f242 j1l [(.cell 2 4 true)]:=⟨Tryz.func242,by kernel_rfl,by kernel_rfl⟩
theorem c242 (s:B) (hs:s≠[]) (hl:s.length≤2000000:=by omega):FnR Tryz.prog G 242 [.str s] (.agg [.int .i64 (pc1 s).size,.bool (pc1 s).named,.int .i64 (pc1 s).e.a,.int .i64 (pc1 s).e.p]):=by
 refine mF dg242 Tryz.ntmps242 ?_
 simp only[j1l,go_sem]
 obtain⟨c,r,rfl⟩:∃c r,s=c::r:=by cases s with|nil=>exact absurd rfl hs|cons c r=>exact⟨c,r,rfl⟩
 refine q0r (c262 _ _) rfl rfl ?_
 simp only[go_sem]
 simp only[zC] at hl
 have key:q19 (c::r)=if c=64 then rdN r else none:=by
  simp only[q19,rdN]
  by_cases hc:c=64<;>by_cases h59:59∈r<;>simp[hc,h59]
 by_cases hc:c=64
 ·subst hc
  have e1:List.isPrefixOf [64] (64::r:B)=true:=by simp[List.isPrefixOf]
  simp only[e1,go_sem]
  refine q0r (c263 r) rfl rfl ?_
  simp only[go_sem]
  rw[if_pos rfl] at key
  cases hn:rdN r with
  | some e =>
    rw[hn] at key
    have h59:59∈r:=by
     by_cases h:59∈r
     ·exact h
     ·simp[rdN,h] at hn
    have he:q08 (q81 r 59).1=some e:=by
     simp only[rdN,if_pos h59] at hn
     simp only[q81,if_pos h59];exact hn
    simp only[go_sem,Option.isSome_some,he,Option.getD_some]
    with_reducible repeat' (first|refine br ?_ ?_<;>intro h e<;>(try simp only[e,go_sem])<;>clear e|rw[q01 (by omega)]|refine sd ?_<;>try simp only[go_sem]|(first|refine cr (c264 ..) ?_)<;>try simp only[go_sem]|fail)
    simp[pc1,key]
  | none =>
    rw[hn] at key
    simp only[go_sem,Option.isSome_none]
    simp[pc1,key,E.zero]
 ·have e1:List.isPrefixOf [64] (c::r:B)=false:=by simp[List.isPrefixOf];exact λh=>hc h.symm
  rw[if_neg hc] at key
  simp only[e1,go_sem]
  simp[pc1,key,E.zero]
def qy6:IC:=sR [oP 2 (.mv (.c .nils))] (sR [oP 6 (.bsl 193 4 []),mV 3 6] (.seq (sR [mV 7 0,mV 8 0,oP 9 (.lens (.t 8)),mV 10 0,oP 11 (.call 165 [.t 10]),bN 12 .sub 9 11,oP 13 (.sls (.t 7) none (some (.t 12))),mV 4 13] (.block 0 (.loop (.seq (sR [mV 14 4,oP 15 (.bin .neq (.t 14) (.c s0))] (cD 15 .skip (.exit 0))) (.block 1 (sR [mV 16 4,oP 17 (.call 242 [.t 16]),oP 5 (.alloc 193 [i0,.bool false,i0,i0]),nP (.sto 4 (.t 5) (.t 17))] (sR [mV 18 3,lA 19 4 5,oP 20 (.bsl 193 4 [.t 19]),oP 21 (.app 193 4 (.t 18) (.t 20)),mV 3 21] (.reg [mV 22 4,fD 23 0 5,lD 24 1 23,oP 25 (.sls (.t 22) (some (.t 24)) none),mV 4 25])))))))) (sR [mV 26 3,oP 27 (.call 243 [.t 26]),mV 2 27] .ret)))
theorem dg203:Dg Tryz.prog 203 Tryz.f203 qy6 [(.t 2)]:=⟨Tryz.func203,by kernel_rfl,by kernel_rfl⟩
theorem c203 (t:B) (hl:t.length≤2000000:=by omega):FnR Tryz.prog G 203 [.str t] (.sl 4 ((pieces t).map Pc.row)):=by
 refine mF dg203 Tryz.ntmps203 ?_
 simp only[qy6,go_sem]
 have hh:=qkc t
 with_reducible repeat' (first|refine br ?_ ?_<;>intro h e<;>(try simp only[e,go_sem])<;>clear e|rw[q01 (by omega)]|refine sd ?_<;>try simp only[go_sem]|(first|refine cr (c165 ..) ?_)<;>try simp only[go_sem]|fail)
 have e0:((t.take ((t.length:Int) - (q6a t:Int)).toNat).drop 0)=body t:=by
  rw[List.drop_zero];unfold body;congr 1;omega
 refine q0v (λa:List Pc×B=>⟨q0i [(3,.own 1006 a.1.length),(4,.str a.2)],q0c [(1006,.arr 193 4 (a.1.map Pc.row))]⟩) (λa=>a.2.length) (λa=>a.1++pcs a.2=pieces t∧a.1.length+a.2.length≤t.length) ([],body t)
  (leN [] (by simp only[go_sem];first|done|exact e0.symm) (by simp only[go_sem];first|done|rfl) (by simp[q0o]) (by simp only[go_sem])) ⟨by rw[q35];rfl,by have:=q2r t;simp;omega⟩ ?_
 intro⟨acc,rest⟩ ⟨h1,h2⟩
 simp only[go_sem]
 simp only at h1 h2
 by_cases hr:rest=[]
 ·subst hr
  simp only[go_sem]
  refine q2p (c243 (acc.map Pc.row)) [1006] true (by simp only[go_sem];simp) (by simp only[List.mem_singleton];rintro c rfl;rfl) rfl (.inl rfl) ?_
  simp only[go_sem]
  rw[←h1,qaw,List.append_nil]
 ·simp only[eq_false hr,go_sem]
  refine q0r (c242 rest hr) rfl rfl ?_
  simp only[go_sem]
  obtain⟨p1,p2,p3⟩:=q30 hr
  with_reducible repeat' (first|refine br ?_ ?_<;>intro h e<;>(try simp only[e,go_sem])<;>clear e|rw[q01 (by omega)]|refine sd ?_<;>try simp only[go_sem]|fail)
  refine⟨(acc++[pc1 rest],rest.drop (pc1 rest).size),by simp;omega,⟨?_,by simp;omega⟩,leN [(1006,1021)] ?_ ?_ (by simp[q0o]) (by simp only[go_sem])⟩
  ·rw[←h1,q3c hr,List.append_assoc];rfl
  ·simp only[go_sem];simp
  ·simp only[go_sem];simp[Pc.row]
def qur:IC:=sR [oP 2 (.mv (.c .nils))] (sR [oP 8 (.bsl 193 4 []),mV 3 8] (sR [mV 9 0,oP 10 (.lens (.t 9)),mV 11 0,oP 12 (.call 93 [.t 11]),bN 13 .sub 10 12,mV 4 13] (sR [oP 5 (.mv (.c i0))] (.seq (.block 0 (.loop (.seq (sR [mV 14 5,mV 15 4,bN 16 .lss 14 15] (cD 16 .skip (.exit 0))) (.block 1 (sR [mV 18 0,mV 19 5,mV 20 4,oP 21 (.sls (.t 18) (some (.t 19)) (some (.t 20))),oP 22 (.call 257 [.t 21]),mV 17 22,eX 23 17 0,eX 24 17 1,oP 6 (.alloc 63 [i0,i0]),nP (.sto 2 (.t 6) (.t 23)),mV 7 24] (.seq (sR [mV 25 7,oP 26 (.bin .gtr (.t 25) (.c i0))] (cD 26 (.reg [mV 27 3,mV 28 7,lA 29 2 6,oP 30 (.build [i0,.bool false,i0,i0] [(0,(1,.t 28)),(1,(1,cT)),(2,(2,.t 29))]),oP 31 (.bsl 193 4 [.t 30]),oP 32 (.app 193 4 (.t 27) (.t 31)),mV 3 32]) (sR [oP 7 (.mv (cI 1))] (.reg [mV 33 3,oP 34 (.build [i0,.bool false,i0,i0] [(0,(1,cI 1))]),oP 35 (.bsl 193 4 [.t 34]),oP 36 (.app 193 4 (.t 33) (.t 35)),mV 3 36])))) (.reg [mV 37 5,mV 38 7,bN 39 .add 37 38,mV 5 39]))))))) (sR [mV 40 3,mV 2 40] .ret)))))
theorem dg233:Dg Tryz.prog 233 Tryz.f233 qur [(.t 2)]:=⟨Tryz.func233,by kernel_rfl,by kernel_rfl⟩
theorem c233 (t:B) (hl:t.length≤2000000:=by omega):FnR Tryz.prog G 233 [.str t] (.sl 4 ((pieces t).map Pc.row)):=by
 refine mF dg233 Tryz.ntmps233 ?_
 simp only[qur,go_sem]
 have hh:=qkc t
 with_reducible repeat' (first|refine br ?_ ?_<;>intro h e<;>(try simp only[e,go_sem])<;>clear e|rw[q01 (by omega)]|refine sd ?_<;>try simp only[go_sem]|(first|refine cr (c93 ..) ?_)<;>try simp only[go_sem]|fail)
 have hb:body t=t.take (t.length - q6a t):=rfl
 have hbl:=q2r t
 refine q0v (λa:List Pc×Nat=>⟨q0i [(0,.str t),(3,.own 1008 a.1.length),(4,.int .i64 (body t).length),(5,.int .i64 (a.2:Int))],q0c [(1008,.arr 193 4 (a.1.map Pc.row))]⟩) (λa=>(body t).length - a.2) (λa=>a.1++pcs ((body t).drop a.2)=pieces t∧a.1.length≤a.2∧a.2≤(body t).length) ([],0)
  (leN [] (by simp only[go_sem];first|done|omega) (by simp only[go_sem];first|done|rfl) (by simp[q0o]) (by simp only[go_sem])) ⟨by rw[q35];rfl,by simp⟩ ?_
 intro⟨acc,i⟩ ⟨h1,h2,h3⟩
 simp only at h1 h2 h3
 simp only[go_sem]
 by_cases hr:(i:Int)<(body t).length
 ·simp only[eq_true hr,go_sem]
  with_reducible repeat' (first|refine br ?_ ?_<;>intro h e<;>(try simp only[e,go_sem])<;>clear e|rw[q01 (by omega)]|refine sd ?_<;>try simp only[go_sem]|fail)
  have e1:(t.take (body t).length).drop i=(body t).drop i:=by rw[hb];simp
  have hne:(body t).drop i≠[]:=by intro h;have:=congrArg List.length h;simp at this;omega
  simp only[e1]
  refine q0r (c257 _ hne (by simp;omega)) rfl rfl ?_
  simp only[go_sem]
  obtain⟨p1,p2,p3⟩:=q30 hne
  have hpc:=q3c hne
  simp only[List.length_drop] at p2
  have hdrop:((body t).drop i).drop (pc1 ((body t).drop i)).size=(body t).drop (i+(pc1 ((body t).drop i)).size):=by simp
  rw[hdrop] at hpc
  generalize hg:pc1 ((body t).drop i)=q at *
  have hgen:(q.size=(match q19 ((body t).drop i) with|some e=>(name e).length|none=>1))∧q=(match q19 ((body t).drop i) with|some e=>⟨(name e).length,true,e⟩|none=>⟨1,false,.zero⟩):=by
   rw[←hg];unfold pc1;cases q19 ((body t).drop i)<;>exact⟨rfl,rfl⟩
  have hnn:∀e,q19 ((body t).drop i)=some e→1≤(name e).length:=λe _=>by simp[name]
  cases hn:q19 ((body t).drop i) with
  | none =>
    rw[hn] at hgen
    obtain⟨hq1,hq2⟩:=hgen
    simp only at hq1 hq2
    simp only[go_sem]
    with_reducible repeat' (first|refine br ?_ ?_<;>intro h e<;>(try simp only[e,go_sem])<;>clear e|rw[q01 (by omega)]|refine sd ?_<;>try simp only[go_sem]|fail)
    refine⟨(acc++[q],i+1),by simp;omega,⟨?_,by simp;omega,by simp;omega⟩,leN [(1008,1036)] ?_ ?_ (by simp[q0o]) (by simp only[go_sem])⟩
    ·rw[←h1,hpc,hq1,List.append_assoc];rfl
    ·simp only[go_sem];simp
    ·simp only[go_sem];simp[Pc.row,hq2,E.zero]
  | some e =>
    rw[hn] at hgen
    obtain⟨hq1,hq2⟩:=hgen
    have hnl:=hnn e hn
    simp only at hq1 hq2
    simp only[go_sem,Option.getD_some]
    with_reducible repeat' (first|refine br ?_ ?_<;>intro h e<;>(try simp only[e,go_sem])<;>clear e|rw[q01 (by omega)]|refine sd ?_<;>try simp only[go_sem]|fail)
    ·refine⟨(acc++[q],i+(name e).length),by simp;omega,⟨?_,by simp;omega,by simp;omega⟩,leN [(1008,1032)] ?_ ?_ (by simp[q0o]) (by simp only[go_sem])⟩
     ·rw[←h1,hpc,hq1,List.append_assoc];rfl
     ·simp only[go_sem];simp
     ·simp only[go_sem];simp[Pc.row,hq2]
    ·omega
 ·simp only[eq_false hr,go_sem]
  have:i=(body t).length:=by omega
  subst this
  rw[←h1,List.drop_length,qaw,List.append_nil]
  exact⟨rfl,rfl⟩
def qz1:IC:=sR [oP 2 (.mv (.c .nils))] (.seq (sR [mV 3 0,oP 4 (.call 134 [.t 3]),oP 5 (.un .not (.t 4))] (cD 5 (sR [oP 2 (.mv (.c .nils))] .ret) .skip)) (sR [mV 6 0,oP 7 (.call 203 [.t 6]),mV 2 7] .ret))
theorem dg167:Dg Tryz.prog 167 Tryz.f167 qz1 [(.t 2)]:=⟨Tryz.func167,by kernel_rfl,by kernel_rfl⟩
theorem c167 (t:B) (hl:t.length≤2000000:=by omega):FnR Tryz.prog G 167 [.str t] (.sl 4 ((q1g t).map Pc.row)):=by
 refine mF dg167 Tryz.ntmps167 ?_
 simp only[qz1,go_sem]
 with_reducible repeat' (first|refine br ?_ ?_<;>intro h e<;>(try simp only[e,go_sem])<;>clear e|rw[q01 (by omega)]|refine sd ?_<;>try simp only[go_sem]|(first|refine cr (qvi ..) ?_|refine cr (c203 ..) ?_)<;>try simp only[go_sem]|fail)
 all_goals simp[q1g, *]
def qw9:IC:=sR [oP 2 (.mv (.c .nils))] (.seq (sR [mV 3 0,oP 4 (.call 161 [.t 3]),oP 5 (.un .not (.t 4))] (cD 5 (sR [oP 6 (.bsl 193 4 []),mV 2 6] .ret) .skip)) (sR [mV 7 0,oP 8 (.call 233 [.t 7]),mV 2 8] .ret))
theorem dg198:Dg Tryz.prog 198 Tryz.f198 qw9 [(.t 2)]:=⟨Tryz.func198,by kernel_rfl,by kernel_rfl⟩
theorem c198 (t:B) (hl:t.length≤2000000:=by omega):FnR Tryz.prog G 198 [.str t] (.sl 4 ((q1g t).map Pc.row)):=by
 refine mF dg198 Tryz.ntmps198 ?_
 simp only[qw9,go_sem]
 with_reducible repeat' (first|refine br ?_ ?_<;>intro h e<;>(try simp only[e,go_sem])<;>clear e|rw[q01 (by omega)]|refine sd ?_<;>try simp only[go_sem]|(first|refine cr (qq5 ..) ?_|refine cr (c233 ..) ?_)<;>try simp only[go_sem]|fail)
 all_goals simp[q1g, *]
theorem qaj {l:List Pc} {i:Nat} (h:i<l.length):q18 (l.take (i+1))=q18 (l.take i)++(if(l.getD i default).named then [(l.getD i default).e] else []):=by
 unfold q18
 rw[List.take_add_one,zE h]
 simp only[Option.toList_some,List.filter_append,List.map_append,List.getD,zE h,Option.getD_some]
 congr 1
 cases hn:l[i].named<;>simp[hn]
theorem q84 (l:List Pc):(q18 l).length≤l.length:=by
 simp only[q18,List.length_map]
 exact List.length_filter_le _ _
def qyt:IC:=sR [oP 2 (.mv (.c .nils))] (sR [oP 6 (.bsl 63 2 []),mV 3 6] (.seq (sR [mV 7 0,oP 8 (.call 167 [.t 7]),oP 9 (.len (.t 8)),oP 10 (.mv (.c i0))] (.block 0 (.loop (sR [bN 11 .lss 10 9] (.seq (cD 11 .skip (.exit 0)) (.seq (.block 1 (sR [oP 12 (.iad 4 (.t 8) (.t 10)),lA 13 4 12,oP 5 (.alloc 193 [i0,.bool false,i0,i0]),nP (.sto 4 (.t 5) (.t 13))] (sR [fD 14 1 5,lD 15 1 14] (cD 15 (.reg [mV 16 3,fD 17 2 5,lA 18 2 17,oP 19 (.bsl 63 2 [.t 18]),oP 20 (.app 63 2 (.t 16) (.t 19)),mV 3 20]) .skip)))) (.reg [oP 21 (.bin .add (.t 10) (cI 1)),mV 10 21]))))))) (sR [mV 22 3,oP 23 (.call 168 [.t 22]),mV 2 23] .ret)))
theorem dg124:Dg Tryz.prog 124 Tryz.f124 qyt [(.t 2)]:=⟨Tryz.func124,by kernel_rfl,by kernel_rfl⟩
theorem c124 (t:B) (hl:t.length≤2000000:=by omega):FnR Tryz.prog G 124 [.str t] (.sl 2 ((q1p t).map E.row)):=by
 refine mF dg124 Tryz.ntmps124 ?_
 simp only[qyt,go_sem]
 with_reducible repeat' (first|refine br ?_ ?_<;>intro h e<;>(try simp only[e,go_sem])<;>clear e|rw[q01 (by omega)]|refine sd ?_<;>try simp only[go_sem]|(first|refine cr (c167 ..) ?_)<;>try simp only[go_sem]|fail)
 have hl2:=q2d t
 unfold q1p
 generalize hp:q1g t=l at *
 refine q0v (λi:Nat=>⟨q0i [(3,.own 1006 (q18 (l.take i)).length),(8,.sl 4 (l.map Pc.row)),(9,.int .i64 l.length),(10,.int .i64 (i:Int))],q0c [(1006,.arr 63 2 ((q18 (l.take i)).map E.row))]⟩) (λi=>l.length - i) (λi=>i≤l.length) 0 (leQ []) (Nat.zero_le _) ?_
 intro i hi
 simp only[go_sem]
 by_cases h:(i:Int)<l.length
 ·simp only[eq_true h,go_sem]
  refine effG (by omega) ?_
  have hst:=qaj (show i<l.length by omega)
  have hle:=q84 (l.take i)
  simp only[List.length_take] at hle
  generalize hq:l.getD i default=q at hst ⊢
  simp only[go_sem]
  cases hn:q.named<;>simp only[hn,go_sem,Bool.false_eq_true] at hst ⊢
  ·with_reducible repeat' (first|refine br ?_ ?_<;>intro h e<;>(try simp only[e,go_sem])<;>clear e|rw[q01 (by omega)]|refine sd ?_<;>try simp only[go_sem]|fail)
   refine⟨i+1,by omega,by omega,leN [] ?_ ?_ (by simp[q0o]) (by simp only[go_sem])⟩
   ·simp only[go_sem,hst];omega
   ·simp only[go_sem,hst]
  ·with_reducible repeat' (first|refine br ?_ ?_<;>intro h e<;>(try simp only[e,go_sem])<;>clear e|rw[q01 (by omega)]|refine sd ?_<;>try simp only[go_sem]|fail)
   refine⟨i+1,by omega,by omega,leN [(1006,1020)] ?_ ?_ (by simp[q0o]) (by simp only[go_sem])⟩
   ·simp only[go_sem,hst];simp
   ·simp only[go_sem,hst];simp[E.row]
 ·simp only[eq_false h,go_sem]
  have:i=l.length:=by omega
  subst this
  refine q2p (c168 ((q18 l).map E.row)) [1006] true (by simp only[go_sem];simp) (by simp only[List.mem_singleton];rintro c rfl;rfl) rfl (.inl rfl) ?_
  simp only[go_sem]
def qym:IC:=sR [oP 2 (.mv (.c .nils))] (sR [oP 6 (.bsl 63 2 []),mV 3 6] (sR [mV 7 0,oP 8 (.call 198 [.t 7]),mV 4 8] (.seq (sR [oP 5 (.mv (.c i0))] (.block 0 (.loop (.seq (sR [mV 9 5,mV 10 4,oP 11 (.len (.t 10)),bN 12 .lss 9 11] (cD 12 .skip (.exit 0))) (.seq (.block 1 (sR [mV 15 4,mV 16 5,oP 17 (.iad 4 (.t 15) (.t 16)),fD 18 1 17,lD 19 1 18] (cD 19 (.reg [mV 20 3,mV 21 4,mV 22 5,oP 23 (.iad 4 (.t 21) (.t 22)),fD 24 2 23,lA 25 2 24,oP 26 (.bsl 63 2 [.t 25]),oP 27 (.app 63 2 (.t 20) (.t 26)),mV 3 27]) .skip))) (.reg [mV 13 5,oP 14 (.bin .add (.t 13) (cI 1)),mV 5 14])))))) (sR [mV 28 3,mV 2 28] .ret))))
theorem dg162:Dg Tryz.prog 162 Tryz.f162 qym [(.t 2)]:=⟨Tryz.func162,by kernel_rfl,by kernel_rfl⟩
theorem c162 (t:B) (hl:t.length≤2000000:=by omega):FnR Tryz.prog G 162 [.str t] (.sl 2 ((q1p t).map E.row)):=by
 refine mF dg162 Tryz.ntmps162 ?_
 simp only[qym,go_sem]
 with_reducible repeat' (first|refine br ?_ ?_<;>intro h e<;>(try simp only[e,go_sem])<;>clear e|rw[q01 (by omega)]|refine sd ?_<;>try simp only[go_sem]|(first|refine cr (c198 ..) ?_)<;>try simp only[go_sem]|fail)
 have hl2:=q2d t
 unfold q1p
 generalize hp:q1g t=l at *
 refine q0v (λi:Nat=>⟨q0i [(3,.own 1006 (q18 (l.take i)).length),(4,.sl 4 (l.map Pc.row)),(5,.int .i64 (i:Int))],q0c [(1006,.arr 63 2 ((q18 (l.take i)).map E.row))]⟩) (λi=>l.length - i) (λi=>i≤l.length) 0 (leQ []) (Nat.zero_le _) ?_
 intro i hi
 simp only[go_sem]
 by_cases h:(i:Int)<l.length
 ·simp only[eq_true h,go_sem]
  refine effG (by omega) ?_
  have hst:=qaj (show i<l.length by omega)
  have hle:=q84 (l.take i)
  simp only[List.length_take] at hle
  generalize hq:l.getD i default=q at hst ⊢
  simp only[go_sem]
  cases hn:q.named<;>simp only[hn,go_sem,Bool.false_eq_true] at hst ⊢
  ·with_reducible repeat' (first|refine br ?_ ?_<;>intro h e<;>(try simp only[e,go_sem])<;>clear e|rw[q01 (by omega)]|refine sd ?_<;>try simp only[go_sem]|fail)
   refine⟨i+1,by omega,by omega,leN [] ?_ ?_ (by simp[q0o]) (by simp only[go_sem])⟩
   ·simp only[go_sem,hst];omega
   ·simp only[go_sem,hst]
  ·with_reducible repeat' (first|refine br ?_ ?_<;>intro h e<;>(try simp only[e,go_sem])<;>clear e|rw[q01 (by omega)]|refine sd ?_<;>try simp only[go_sem]|fail)
   simp only[hq,go_sem]
   with_reducible repeat' (first|refine br ?_ ?_<;>intro h e<;>(try simp only[e,go_sem])<;>clear e|rw[q01 (by omega)]|refine sd ?_<;>try simp only[go_sem]|fail)
   refine⟨i+1,by omega,by omega,leN [(1006,1027)] ?_ ?_ (by simp[q0o]) (by simp only[go_sem])⟩
   ·simp only[go_sem,hst];simp
   ·simp only[go_sem,hst];simp[E.row]
 ·simp only[eq_false h,go_sem]
  have:i=l.length:=by omega
  subst this
  simp only[List.take_length]
  exact⟨trivial,trivial⟩
def qyn:IC:=sR [oP 3 (.box 63 (.t 1)),oP 4 (.mv (.c i0))] (.seq (sR [mV 7 0,oP 8 (.len (.t 7)),oP 9 (.mv (.c i0))] (.block 0 (.loop (sR [bN 10 .lss 9 8] (.seq (cD 10 .skip (.exit 0)) (.seq (.block 1 (sR [oP 11 (.iad 3 (.t 7) (.t 9)),lA 12 3 11,oP 6 (.alloc 145 [i0,i0,i0]),nP (.sto 3 (.t 6) (.t 12))] (sR [fD 13 1 6,lA 14 2 13,lA 15 2 3,oP 16 (.eqs false [.i,.i] (.t 14) (.t 15))] (cD 16 (sR [fD 17 0 6,lD 18 1 17,mV 4 18] .ret) .skip)))) (.reg [oP 19 (.bin .add (.t 9) (cI 1)),mV 9 19]))))))) (sR [oP 4 (.mv (.c i0))] .ret))
theorem dg128:Dg Tryz.prog 128 Tryz.f128 qyn [(.t 4)]:=⟨Tryz.func128,by kernel_rfl,by kernel_rfl⟩
theorem c128 (m:List Pair) (a p:Int) (hl:m.length≤2000000:=by omega):FnR Tryz.prog G 128 [.sl 3 (m.map Pair.row),.agg [.int .i64 a,.int .i64 p]] (.int .i64 (portOf m ⟨a,p⟩)):=by
 refine mF dg128 Tryz.ntmps128 ?_
 simp only[qyn,go_sem]
 refine q0v (λi:Nat=>⟨q0i [(3,.pv 1003 0),(7,.sl 3 (m.map Pair.row)),(8,.int .i64 m.length),(9,.int .i64 (i:Int))],q0c [(1003,.var 63 [.int .i64 a,.int .i64 p])]⟩) (λi=>m.length - i) (λi=>i≤m.length∧portOf m ⟨a,p⟩=portOf (m.drop i) ⟨a,p⟩) 0 (leQ []) ⟨Nat.zero_le _,by simp⟩ ?_
 intro i ⟨hi,ha⟩
 simp only[go_sem]
 by_cases h:(i:Int)<m.length
 ·simp only[eq_true h,go_sem]
  refine effG (by omega) ?_
  have hil:i<m.length:=by omega
  rw[List.drop_eq_getElem_cons hil,q4v] at ha
  have hg:m.getD i default=m[i]:=by simp[List.getD,hil]
  simp only[hg,go_sem,E.ext_iff']
  with_reducible repeat' (first|refine br ?_ ?_<;>intro h e<;>(try simp only[e,go_sem])<;>clear e|rw[q01 (by omega)]|refine sd ?_<;>try simp only[go_sem]|fail)
  ·rw[ha,if_pos h]
  ·refine⟨i+1,by omega,⟨by omega,by rw[ha,if_neg h]⟩,(leQ [])⟩
 ·simp only[eq_false h,go_sem]
  have:i=m.length:=by omega
  subst this
  rw[ha,List.drop_length,q7i]
def qul:IC:=sR [oP 4 (.alloc 63 [i0,i0]),oP 5 (.mv cF)] (.seq (sR [mV 8 0,oP 9 (.len (.t 8)),oP 10 (.mv (.c i0))] (.block 0 (.loop (sR [bN 11 .lss 10 9] (.seq (cD 11 .skip (.exit 0)) (.seq (.block 1 (sR [oP 12 (.iad 3 (.t 8) (.t 10)),lA 13 3 12,oP 7 (.alloc 145 [i0,i0,i0]),nP (.sto 3 (.t 7) (.t 13))] (sR [fD 14 0 7,lD 15 1 14,mV 16 1,bN 17 .eql 15 16] (cD 17 (sR [fD 18 1 7,lA 19 2 18,nP (.sto 2 (.t 4) (.t 19)),oP 5 (.mv cT)] .ret) .skip)))) (.reg [oP 20 (.bin .add (.t 10) (cI 1)),mV 10 20]))))))) (sR [oP 21 (.build [i0,i0] []),nP (.sto 2 (.t 4) (.t 21)),oP 5 (.mv cF)] .ret))
theorem dg208:Dg Tryz.prog 208 Tryz.f208 qul [(.cell 4 2 true),(.t 5)]:=⟨Tryz.func208,by kernel_rfl,by kernel_rfl⟩
theorem c208 (m:List Pair) (n:Int) (hl:m.length≤2000000:=by omega):FnR Tryz.prog G 208 [.sl 3 (m.map Pair.row),.int .i64 n] (rdV (q0j m n)):=by
 refine mF dg208 Tryz.ntmps208 ?_
 simp only[qul,go_sem]
 refine q0v (λi:Nat=>⟨q0i [(1,.int .i64 n),(4,.pv 1004 0),(8,.sl 3 (m.map Pair.row)),(9,.int .i64 m.length),(10,.int .i64 (i:Int))],q0c [(1004,.var 63 [.int .i64 0,.int .i64 0])]⟩) (λi=>m.length - i) (λi=>i≤m.length∧q0j m n=q0j (m.drop i) n) 0 (leQ []) ⟨Nat.zero_le _,by simp⟩ ?_
 intro i ⟨hi,ha⟩
 simp only[go_sem]
 by_cases h:(i:Int)<m.length
 ·simp only[eq_true h,go_sem]
  refine effG (by omega) ?_
  have hil:i<m.length:=by omega
  rw[List.drop_eq_getElem_cons hil,qbp] at ha
  have hg:m.getD i default=m[i]:=by simp[List.getD,hil]
  simp only[hg,go_sem]
  with_reducible repeat' (first|refine br ?_ ?_<;>intro h e<;>(try simp only[e,go_sem])<;>clear e|rw[q01 (by omega)]|refine sd ?_<;>try simp only[go_sem]|fail)
  ·rw[ha,if_pos h];exact⟨⟨rfl,rfl⟩,rfl⟩
  ·refine⟨i+1,by omega,⟨by omega,by rw[ha,if_neg h]⟩,(leQ [])⟩
 ·simp only[eq_false h,go_sem]
  have:i=m.length:=by omega
  subst this
  rw[ha,List.drop_length]
  exact⟨⟨rfl,rfl⟩,rfl⟩
theorem qlj {m:List Pair} {i:Nat} (h:i<m.length):q4b m i=(decide (m[i].port=10+(i:Int))&&m[i].ins.inside&&!(m.take i).any λq=>decide (q.ins=m[i].ins)):=by
 simp[q4b,h]
theorem q9b {m:List Pair} {i:Nat} (h:i<m.length) (hb:q4b m i=false):mapOk m=false:=by
 have:(List.range m.length).all (q4b m)=false:=by
  rw[List.all_eq_false]
  exact⟨i,List.mem_range.2 h,by simp[hb]⟩
 simp[mapOk,this]
def qsx:IC:=sR [oP 2 (.mv (.c .nils))] (sR [mV 3 0,oP 4 (.call 174 [.t 3]),oP 5 (.call 173 [.t 4]),mV 2 5] .ret)
theorem qxe:Dg Tryz.prog 135 Tryz.f135 qsx [(.t 2)]:=⟨Tryz.func135,by kernel_rfl,by kernel_rfl⟩
theorem c135 (rows:List (List V)) (hr:rows.length≤2000000:=by omega):FnP Tryz.prog G 135 0 [] [.sl 3 rows] (λr o=>r=.own 0 rows.length∧o=[.arr 145 3 rows]):=by
 refine mP qxe Tryz.ntmps135 ⟨_,_,rfl,rfl⟩ ?_
 simp only[qsx,go_sem]
 refine q5b (c174 rows hr) [] 4 1 (by simp only[go_sem];first|done|simp) (by simp) (by rintro _ _ ⟨rfl,rfl⟩;simp) (by intro i hi;obtain rfl:i=0:=(by omega);simp only[go_sem]) ?_
 rintro _ _ ⟨rfl,rfl⟩
 simp only[go_sem]
 refine q25 (o173 rows rows.length rfl) [100400] [] 5 1 (by simp only[go_sem];first|done|simp) (by simp only[go_sem];first|done|simp) (by simp) (by simp) (by rintro _ _ ⟨rfl,rfl⟩;simp) (by intro i hi;obtain rfl:i=0:=(by omega);simp only[go_sem]) ?_
 rintro _ _ ⟨rfl,rfl⟩
 simp only[go_sem]
 exact q1m (.own 0 rows.length) [.arr 145 3 rows] [(0,100500)] (by simp only[go_sem];first|done|simp) ⟨rfl,rfl⟩ (by simp only[go_sem]) (by simp[q1c]) (by simp only[go_sem])
def qvv:IC:=sR [oP 3 (.box 63 (.t 1)),oP 4 (.mv (.c .nils)),oP 5 (.mv (.c i0)),oP 6 (.mv cF)] (sR [mV 10 0,oP 11 (.call 135 [.t 10]),mV 7 11] (.seq (sR [mV 12 0,lA 13 2 3,oP 14 (.call 128 [.t 12,.t 13]),mV 8 14] (sR [mV 15 8,oP 16 (.bin .neq (.t 15) (.c i0))] (cD 16 (sR [mV 17 7,mV 18 8,mV 4 17,mV 5 18,oP 6 (.mv cT)] .ret) .skip))) (sR [mV 19 0,oP 20 (.len (.t 19)),oP 21 (.bin .add (cI 10) (.t 20)),mV 9 21] (.seq (sR [mV 22 9,oP 23 (.bin .gtr (.t 22) (cI 17))] (cD 23 (sR [mV 24 7,mV 4 24,oP 5 (.mv (.c i0)),oP 6 (.mv cF)] .ret) .skip)) (sR [mV 25 7,mV 26 9,lA 27 2 3,oP 28 (.build [i0,i0,i0] [(0,(1,.t 26)),(1,(2,.t 27))]),oP 29 (.bsl 145 3 [.t 28]),oP 30 (.app 145 3 (.t 25) (.t 29)),oP 31 (.call 173 [.t 30]),mV 32 9,mV 4 31,mV 5 32,oP 6 (.mv cT)] .ret)))))
theorem dg205:Dg Tryz.prog 205 Tryz.f205 qvv [(.t 4),(.t 5),(.t 6)]:=⟨Tryz.func205,by kernel_rfl,by kernel_rfl⟩
theorem c205 (m:List Pair) (a p:Int) (hp:PortsOk m) (hl:m.length≤1000000):FnR Tryz.prog G 205 [.sl 3 (m.map Pair.row),.agg [.int .i64 a,.int .i64 p]]
 (.tup [.sl 3 ((mOut m ⟨a,p⟩).1.map Pair.row),.int .i64 (mOut m ⟨a,p⟩).2.1,.bool (mOut m ⟨a,p⟩).2.2]):=by
 refine mF dg205 Tryz.ntmps205 ?_
 have hp0:∀p∈m,p.port≠0:=λp h=>(hp p h).1
 have e1:=q5z (e:=⟨a,p⟩) hp0
 have e2:=qcs (e:=⟨a,p⟩) hp0
 simp only[qvv,go_sem]
 refine q5b (c135 (m.map Pair.row) (by simp;omega)) [] 11 1 (by simp only[go_sem];first|done|simp) (by simp) (by rintro _ _ ⟨rfl,rfl⟩;simp) (by intro i hi;obtain rfl:i=0:=(by omega);simp only[go_sem]) ?_
 rintro _ _ ⟨rfl,rfl⟩
 simp only[go_sem]
 with_reducible repeat' (first|refine br ?_ ?_<;>intro h e<;>(try simp only[e,go_sem])<;>clear e|rw[q01 (by omega)]|refine sd ?_<;>try simp only[go_sem]|(first|refine cr (c128 ..) ?_)<;>try simp only[go_sem]|fail)
 all_goals(have hw:IntKind.i64.wrap (10+(m.length:Int))=10+m.length:=q01 (by omega))
 all_goals(try simp only[hw] at h)
 ·rename_i h0
  rw[e2 h0,if_pos (by omega)];exact⟨⟨rfl,rfl⟩,rfl,rfl⟩
 ·rename_i h0
  rw[e2 h0,if_neg (by omega)]
  refine q2p (c173 ((m++([⟨10+(m.length:Int),⟨a,p⟩⟩]:List Pair)).map Pair.row)) [1030] true (by simp only[go_sem];first|done|simp[E.row,Pc.row,Pair.row,Part.row,Flw.row,Pk.row,Conv.row]) (by simp only[List.mem_singleton];rintro c rfl;rfl) rfl (.inl rfl) ?_
  simp only[go_sem]
 ·rw[e1 h];exact⟨⟨rfl,rfl⟩,rfl,rfl⟩
def j0u:IC:=sR [oP 5 (.box 193 (.t 1)),oP 8 (.mv (.c .nils)),oP 9 (.mv (.c s0))] (.seq (.block 0 (sR [fD 16 1 5,lD 17 1 16,mV 18 17,gT 19 18 (.mv (.t 3)),pF 20 18 19,mV 21 20,gT 22 21 (.fad 2 (.t 5)),gT 23 21 (.ld 2 true (.t 22)),gT 24 21 (.call 120 [.t 23]),pF 25 21 24,mV 15 25] (cD 15 (sR [mV 27 0,fD 28 2 5,lA 29 2 28,oP 30 (.call 205 [.t 27,.t 29]),mV 26 30,eX 31 26 0,eX 32 26 1,eX 33 26 2,mV 10 31,mV 11 32,mV 12 33] (sR [mV 34 12] (cD 34 (sR [mV 35 10,mV 36 11,oP 37 (.build [i0,i0] [(0,(1,cI 9)),(1,(1,.t 36))]),oP 38 (.call 264 [.t 37]),mV 8 35,mV 9 38] .ret) .skip))) (sR [fD 40 1 5,lD 41 1 40,mV 42 41,gT 43 42 (.mv (.t 3)),gT 44 42 (.un .not (.t 43)),pF 45 42 44,mV 46 45,gT 47 46 (.fad 2 (.t 5)),gT 48 46 (.ld 2 true (.t 47)),gT 49 46 (.call 125 [.t 48]),pF 50 46 49,mV 39 50] (cD 39 (sR [mV 52 0,fD 53 2 5,fD 54 1 53,lD 55 1 54,oP 56 (.call 208 [.t 52,.t 55]),mV 51 56,eX 57 51 0,eX 58 51 1,oP 13 (.alloc 63 [i0,i0]),nP (.sto 2 (.t 13) (.t 57)),mV 14 58] (sR [mV 59 14] (cD 59 (sR [mV 60 0,lA 61 2 13,oP 62 (.call 264 [.t 61]),mV 8 60,mV 9 62] .ret) .skip))) .skip))))) (sR [mV 63 0,mV 64 2,mV 8 63,mV 9 64] .ret))
theorem dg269:Dg Tryz.prog 269 Tryz.f269 j0u [(.t 8),(.t 9)]:=⟨Tryz.func269,by kernel_rfl,by kernel_rfl⟩
theorem c269 (m:List Pair) (n:Nat) (b:Bool) (a p:Int) (s:B) (out:Bool) (hp:PortsOk m) (hl:m.length≤1000000):FnR Tryz.prog G 269 [.sl 3 (m.map Pair.row),.agg [.int .i64 n,.bool b,.int .i64 a,.int .i64 p],.str s,.bool out]
 (.tup [.sl 3 ((turn m ⟨n,b,⟨a,p⟩⟩ s out).1.map Pair.row),.str (turn m ⟨n,b,⟨a,p⟩⟩ s out).2]):=by
 refine mF dg269 Tryz.ntmps269 ?_
 simp only[j0u,go_sem]
 cases b<;>cases out<;>simp only[go_sem]
 all_goals
  repeat' (first
   | (refine q0r (qyd ..) rfl rfl ?_;simp only[go_sem])
   | (refine q0r (qlc ..) rfl rfl ?_;simp only[go_sem])
   | (with_reducible refine cB (λh=>?_) (λh=>?_)<;>simp only[h,go_sem])
   | (refine q0r (c205 m a p hp hl) rfl rfl ?_;simp only[go_sem])
   | (refine q0r (c208 m p) rfl rfl ?_;simp only[go_sem])
   | (refine q0r (c264 ..) rfl rfl ?_;simp only[go_sem]))
 ·simp[turn,q2j]
 ·simp[turn,q0q]
 ·rename_i h0
  obtain⟨e,he⟩:=Option.isSome_iff_exists.1 h
  simp[turn,q2j,h0,he]
 ·rename_i h0
  have:q0j m p=none:=by simpa using h
  simp[turn,q2j,h0,this]
 ·simp[turn,q2j,h]
 ·rename_i h0
  rcases hmo:mOut m ⟨a,p⟩ with⟨x,port,ok⟩
  rw[hmo] at h
  simp only at h
  subst h
  simp[turn,q0q,h0,hmo]
 ·rename_i h0
  rcases hmo:mOut m ⟨a,p⟩ with⟨x,port,ok⟩
  rw[hmo] at h
  simp only at h
  subst h
  simp[turn,q0q,h0,hmo]
 ·simp[turn,q0q,h]
def j1y:IC:=sR [oP 2 (.mv (.c .nils))] (sR [oP 3 (.bsl 145 3 []),mV 4 0,oP 5 (.app 145 3 (.t 3) (.t 4)),mV 2 5] .ret)
theorem dg231:Dg Tryz.prog 231 Tryz.f231 j1y [(.t 2)]:=⟨Tryz.func231,by kernel_rfl,by kernel_rfl⟩
theorem c231 (rows:List (List V)) (hr:rows.length≤2000000):FnP Tryz.prog G 231 0 [] [.sl 3 rows] (λr o=>r=.own 0 rows.length∧o=[.arr 145 3 rows]):=by
 refine mP dg231 Tryz.ntmps231 ⟨_,_,rfl,rfl⟩ ?_
 simp only[j1y,go_sem]
 with_reducible repeat' (first|refine br ?_ ?_<;>intro h e<;>(try simp only[e,go_sem])<;>clear e|rw[q01 (by omega)]|refine sd ?_<;>try simp only[go_sem]|fail)
 exact q1m (.own 0 rows.length) [.arr 145 3 rows] [(0,1005)] (by simp only[go_sem];first|done|simp) ⟨rfl,rfl⟩ (by simp only[go_sem]) (by simp[q1c]) (by simp only[go_sem])
def qx7:IC:=sR [oP 4 (.alloc 63 [i0,i0]),oP 5 (.mv cF)] (sR [mV 7 1,oP 8 (.bin .sub (.t 7) (cI 10)),mV 6 8] (.seq (sR [mV 9 6,mV 10 0,oP 11 (.len (.t 10)),oP 12 (.bin .sub (.t 11) (cI 1)),oP 13 (.call 114 [.t 9,.c i0,.t 12]),oP 14 (.un .not (.t 13))] (cD 14 (sR [oP 15 (.build [i0,i0] []),nP (.sto 2 (.t 4) (.t 15)),oP 5 (.mv cF)] .ret) .skip)) (sR [mV 16 0,mV 17 6,oP 18 (.iad 3 (.t 16) (.t 17)),fD 19 1 18,lA 20 2 19,nP (.sto 2 (.t 4) (.t 20)),oP 5 (.mv cT)] .ret)))
theorem dg240:Dg Tryz.prog 240 Tryz.f240 qx7 [(.cell 4 2 true),(.t 5)]:=⟨Tryz.func240,by kernel_rfl,by kernel_rfl⟩
theorem c240 (m:List Pair) (n:Int) (hm:mapOk m=true) (hn : -1000000≤n∧n≤1000000):FnR Tryz.prog G 240 [.sl 3 (m.map Pair.row),.int .i64 n] (rdV (q0j m n)):=by
 refine mF dg240 Tryz.ntmps240 ?_
 obtain⟨hp,hl⟩:=q0d hm
 simp only[qx7,go_sem]
 have hat:=q8y hm n
 with_reducible repeat' (first|refine br ?_ ?_<;>intro h e<;>(try simp only[e,go_sem])<;>clear e|rw[q01 (by omega)]|refine sd ?_<;>try simp only[go_sem]|(first|refine cr (qc3 ..) ?_)<;>try simp only[go_sem]|fail)
 ·rw[M.within_iff] at h
  rw[dif_pos (by omega)] at hat
  with_reducible repeat' (first|refine br ?_ ?_<;>intro h e<;>(try simp only[e,go_sem])<;>clear e|rw[q01 (by omega)]|refine sd ?_<;>try simp only[go_sem]|fail)
  have hg:m.getD (n - 10).toNat default=m[(n - 10).toNat]'(by omega):=by simp[List.getD,show(n - 10).toNat<m.length by omega]
  simp only[hg,hat,go_sem]
  exact⟨⟨rfl,rfl⟩,rfl⟩
 ·have:¬(0≤n - 10∧n - 10<m.length):=λhc=>by
   have:q0g (n - 10) 0 (m.length - 1)=true:=by rw[M.within_iff];omega
   rw[h] at this;cases this
  rw[dif_neg this] at hat
  rw[hat]
  exact⟨⟨rfl,rfl⟩,rfl⟩
def qzb:IC:=sR [oP 4 (.box 193 (.t 1)),oP 6 (.mv (.c s0))] (.seq (sR [fD 9 1 4,lD 10 1 9,oP 11 (.un .not (.t 10)),mV 12 11,gF 13 12 (.fad 2 (.t 4)),gF 14 12 (.ld 2 true (.t 13)),gF 15 12 (.call 119 [.t 14]),gF 16 12 (.un .not (.t 15)),pT 17 12 16] (cD 17 (sR [mV 18 2,mV 6 18] .ret) .skip)) (sR [mV 20 0,fD 21 2 4,fD 22 1 21,lD 23 1 22,oP 24 (.call 240 [.t 20,.t 23]),mV 19 24,eX 25 19 0,eX 26 19 1,oP 7 (.alloc 63 [i0,i0]),nP (.sto 2 (.t 7) (.t 25)),mV 8 26] (.seq (sR [mV 27 8,oP 28 (.un .not (.t 27))] (cD 28 (sR [mV 29 2,mV 6 29] .ret) .skip)) (sR [lA 30 2 7,oP 31 (.call 92 [.t 30]),oP 32 (.bin .add (.c (.str [64])) (.t 31)),oP 33 (.bin .add (.t 32) (.c (.str [59]))),mV 6 33] .ret))))
theorem dg260:Dg Tryz.prog 260 Tryz.f260 qzb [(.t 6)]:=⟨Tryz.func260,by kernel_rfl,by kernel_rfl⟩
theorem c260 (m:List Pair) (n:Nat) (b:Bool) (a p:Int) (s:B) (hm:mapOk m=true):FnR Tryz.prog G 260 [.sl 3 (m.map Pair.row),.agg [.int .i64 n,.bool b,.int .i64 a,.int .i64 p],.str s] (.str (q2j m ⟨n,b,⟨a,p⟩⟩ s)):=by
 refine mF dg260 Tryz.ntmps260 ?_
 simp only[qzb,go_sem]
 cases b<;>simp only[go_sem]
 ·simp[q2j]
 refine q0r (qle ..) rfl rfl ?_
 simp only[go_sem]
 cases hd:E.door ⟨a,p⟩<;>simp only[go_sem]
 ·simp[q2j,hd]
 have hd':=hd
 rw[E.door_iff] at hd
 simp only at hd
 refine q0r (c240 m p hm (by omega)) rfl rfl ?_
 simp only[go_sem]
 cases hi:q0j m p with
 | none=>simp only[go_sem,Option.isSome_none];simp[q2j,hd',hi]
 | some e =>
   have:=q2t (e:=e)
   simp only[go_sem,Option.isSome_some,Option.getD_some]
   refine q0r (c92 e.a e.p) rfl rfl ?_
   simp only[go_sem]
   repeat' (with_reducible refine pureG (by simp;omega) ?_;try simp only[go_sem])
   simp[q2j,hd',hi,name]
def outP (m:List Pair) (e:E) (r:V) (o:List Hs):Prop :=
 ((mOut m e).1=m∧r=.tup [.own 0 m.length,.int .i64 (mOut m e).2.1,.bool (mOut m e).2.2]∧o=[.arr 145 3 (m.map Pair.row)]) ∨
 (r=.tup [.own 1 (mOut m e).1.length,.int .i64 (mOut m e).2.1,.bool (mOut m e).2.2]∧o=[.dead,.arr 145 3 ((mOut m e).1.map Pair.row)]∧(mOut m e).2.2=true∧(mOut m e).1≠m)
def qwd:IC:=sR [oP 3 (.box 63 (.t 1)),oP 4 (.mv (.c .nils)),oP 5 (.mv (.c i0)),oP 6 (.mv cF)] (.seq (sR [oP 7 (.mv (.c i0))] (.block 0 (.loop (.seq (sR [mV 9 7,mV 10 0,oP 11 (.len (.t 10)),bN 12 .lss 9 11] (cD 12 .skip (.exit 0))) (.seq (.block 1 (.seq (.drw [0,0,3,7,15,0,63] [(0,mV 15 0),(1,mV 16 7),(2,oP 17 (.iad 3 (.t 15) (.t 16))),(3,fD 18 1 17),(4,lA 19 2 18),(5,lA 20 2 3),(6,oP 21 (.eqs false [.i,.i] (.t 19) (.t 20)))]) (cD 21 (.seq (.drw [0,0,0,6,14,30,1,127,255] [(0,mV 22 0),(1,mV 23 0),(2,mV 24 7),(3,oP 25 (.iad 3 (.t 23) (.t 24))),(4,fD 26 0 25),(5,lD 27 1 26),(6,mV 4 22),(7,mV 5 27),(8,oP 6 (.mv cT))]) .ret) .skip))) (.reg [mV 13 7,oP 14 (.bin .add (.t 13) (cI 1)),mV 7 14])))))) (.seq (sR [mV 28 0,oP 29 (.len (.t 28)),oP 30 (.bin .gtr (.t 29) (cI 7))] (cD 30 (sR [mV 31 0,mV 4 31,oP 5 (.mv (.c i0)),oP 6 (.mv cF)] .ret) .skip)) (sR [mV 32 0,oP 33 (.len (.t 32)),oP 34 (.bin .add (cI 10) (.t 33)),mV 8 34] (sR [mV 35 0,mV 36 8,lA 37 2 3,oP 38 (.build [i0,i0,i0] [(0,(1,.t 36)),(1,(2,.t 37))]),oP 39 (.bsl 145 3 [.t 38]),oP 40 (.app 145 3 (.t 35) (.t 39)),mV 41 8,mV 4 40,mV 5 41,oP 6 (.mv cT)] .ret))))
theorem dg235:Dg Tryz.prog 235 Tryz.f235 qwd [(.t 4),(.t 5),(.t 6)]:=⟨Tryz.func235,by kernel_rfl,by kernel_rfl⟩
theorem c235 (m:List Pair) (a p:Int) (hp:PortsOk m) (hl:m.length≤1000000):FnP Tryz.prog G 235 1 [.arr 145 3 (m.map Pair.row)] [.own 0 m.length,.agg [.int .i64 a,.int .i64 p]] (outP m ⟨a,p⟩):=by
 refine mP dg235 Tryz.ntmps235 ?_ ?_
 ·by_cases h:(mOut m ⟨a,p⟩).1=m
  ·exact⟨_,_,.inl ⟨h,rfl,rfl⟩⟩
  ·refine⟨_,_,.inr ⟨rfl,rfl, ?_,h⟩⟩
   cases hb:(mOut m ⟨a,p⟩).2.2 with
   | true=>rfl
   | false =>
     exfalso
     apply h
     revert hb
     unfold mOut
     split
     ·simp
     ·split<;>simp
 simp only[qwd,go_sem]
 refine q0v (λi:Nat=>⟨q0i [(0,.own 0 m.length),(3,.pv 1003 0),(7,.int .i64 (i:Int))],q0c [(0,.arr 145 3 (m.map Pair.row)),(1003,.var 63 [.int .i64 a,.int .i64 p])]⟩) (λi=>m.length - i) (λi=>i≤m.length∧portOf m ⟨a,p⟩=portOf (m.drop i) ⟨a,p⟩) 0 (leQ []) ⟨Nat.zero_le _,by simp⟩ ?_
 intro i ⟨hi,ha⟩
 simp only[go_sem]
 by_cases h:(i:Int)<m.length
 ·have hil:i<m.length:=by omega
  have hg:m.getD i default=m[i]:=by simp[List.getD,hil]
  rw[List.drop_eq_getElem_cons hil,q4v] at ha
  simp only[eq_true h,go_sem]
  with_reducible repeat' (first|refine br ?_ ?_<;>intro h e<;>(try simp only[e,go_sem,q00 hil,hg,E.ext_iff'])<;>clear e|rw[q01 (by omega)]|refine sd ?_<;>try simp only[go_sem,q00 hil,hg,E.ext_iff']|fail)
  ·rw[if_pos h] at ha
   have hne:portOf m ⟨a,p⟩≠0:=by rw[ha];exact(hp m[i] (List.getElem_mem hil)).1
   have hf:=q5z (λp h=>(hp p h).1) hne
   refine q1m (.tup [.own 0 m.length,.int .i64 (mOut m ⟨a,p⟩).2.1,.bool (mOut m ⟨a,p⟩).2.2]) [.arr 145 3 (m.map Pair.row)] [] ?_ (.inl ⟨by rw[hf],rfl,rfl⟩) (by simp only[go_sem]) (by simp[q1c]) (by simp only[go_sem];first|done|simp)
   simp only[go_sem,hf,ha]
   try simp
  ·refine⟨i+1,by omega,⟨by omega,by rw[ha,if_neg h]⟩,(leQ [])⟩
 ·simp only[eq_false h,go_sem]
  have:i=m.length:=by omega
  subst this
  rw[List.drop_length,q7i] at ha
  have hf:=qcs (λp h=>(hp p h).1) ha
  with_reducible repeat' (first|refine br ?_ ?_<;>intro h e<;>(try simp only[e,go_sem])<;>clear e|rw[q01 (by omega)]|refine sd ?_<;>try simp only[go_sem]|fail)
  ·rw[if_pos (by omega)] at hf
   refine q1m (.tup [.own 0 m.length,.int .i64 (mOut m ⟨a,p⟩).2.1,.bool (mOut m ⟨a,p⟩).2.2]) [.arr 145 3 (m.map Pair.row)] [] ?_ (.inl ⟨by rw[hf],rfl,rfl⟩) (by simp only[go_sem]) (by simp[q1c]) (by simp only[go_sem];first|done|simp)
   simp only[go_sem,hf]
   try simp
  ·rw[if_neg (by omega)] at hf
   refine q1m (.tup [.own 1 (mOut m ⟨a,p⟩).1.length,.int .i64 (mOut m ⟨a,p⟩).2.1,.bool (mOut m ⟨a,p⟩).2.2]) [.dead,.arr 145 3 ((mOut m ⟨a,p⟩).1.map Pair.row)] [(1,1040)] ?_ (.inr ⟨rfl,rfl,by rw[hf],by rw[hf];simp⟩) ?_ (by simp[q1c,q0o]) (by simp only[go_sem];first|done|simp)
   ·simp only[go_sem,hf];simp
   ·simp only[go_sem,hf];simp[Pair.row]
def qzp:IC:=sR [oP 4 (.box 193 (.t 1)),oP 6 (.mv (.c .nils)),oP 7 (.mv (.c s0))] (.seq (sR [fD 11 1 4,lD 12 1 11,oP 13 (.un .not (.t 12)),mV 14 13,gF 15 14 (.fad 2 (.t 4)),gF 16 14 (.ld 2 true (.t 15)),gF 17 14 (.call 109 [.t 16]),gF 18 14 (.un .not (.t 17)),pT 19 14 18] (cD 19 (sR [mV 20 0,mV 21 2,mV 6 20,mV 7 21] .ret) .skip)) (sR [mV 23 0,fD 24 2 4,lA 25 2 24,oP 26 (.call 235 [.t 23,.t 25]),mV 22 26,eX 27 22 0,eX 28 22 1,eX 29 22 2,mV 8 27,mV 9 28,mV 10 29] (.seq (sR [mV 30 10,oP 31 (.un .not (.t 30))] (cD 31 (sR [mV 32 0,mV 33 2,mV 6 32,mV 7 33] .ret) .skip)) (sR [mV 34 8,mV 35 9,oP 36 (.build [i0,i0] [(0,(1,cI 9)),(1,(1,.t 35))]),oP 37 (.call 92 [.t 36]),oP 38 (.bin .add (.c (.str [64])) (.t 37)),oP 39 (.bin .add (.t 38) (.c (.str [59]))),mV 6 34,mV 7 39] .ret))))
theorem dg259:Dg Tryz.prog 259 Tryz.f259 qzp [(.t 6),(.t 7)]:=⟨Tryz.func259,by kernel_rfl,by kernel_rfl⟩
theorem c259 (m:List Pair) (n:Nat) (b:Bool) (a p:Int) (s:B) (hp:PortsOk m) (hl:m.length≤1000000):FnP Tryz.prog G 259 0 [.arr 145 3 (m.map Pair.row)] [.own 0 m.length,.agg [.int .i64 n,.bool b,.int .i64 a,.int .i64 p],.str s]
 (λr o=>r=.tup [.own 0 (q0q m ⟨n,b,⟨a,p⟩⟩ s).1.length,.str (q0q m ⟨n,b,⟨a,p⟩⟩ s).2]∧o=[.arr 145 3 ((q0q m ⟨n,b,⟨a,p⟩⟩ s).1.map Pair.row)]):=by
 refine mP dg259 Tryz.ntmps259 ⟨_,_,rfl,rfl⟩ ?_
 simp only[qzp,go_sem]
 have keep:∀l mm,q0q m ⟨n,b,⟨a,p⟩⟩ s=(m,s)→q0i l 6=.own 0 m.length→q0i l 7=.str s→q0c mm 0=.arr 145 3 (m.map Pair.row) →
  q59 [.t 6,.t 7] 0 (λr o=>r=.tup [.own 0 (q0q m ⟨n,b,⟨a,p⟩⟩ s).1.length,.str (q0q m ⟨n,b,⟨a,p⟩⟩ s).2]∧o=[.arr 145 3 ((q0q m ⟨n,b,⟨a,p⟩⟩ s).1.map Pair.row)]) .ret ⟨q0i l,q0c mm⟩:=λl mm h1 h2 h3 h4=>by
  refine q1m _ _ [] ?_ ⟨rfl,rfl⟩ ?_ (by simp[q1c]) (by simp only[go_sem])
  ·simp only[go_sem,h1,h2,h3];try simp
  ·simp only[go_sem,h1,h4]
 cases b<;>simp only[go_sem]
 ·exact keep _ _ (by simp[q0q]) (by simp only[go_sem]) (by simp only[go_sem]) (by simp only[go_sem])
 refine q0r (qua ..) rfl rfl ?_
 simp only[go_sem]
 cases hi:E.inside ⟨a,p⟩<;>simp only[go_sem]
 ·exact keep _ _ (by simp[q0q,hi]) (by simp only[go_sem]) (by simp only[go_sem]) (by simp only[go_sem])
 refine q0m (c235 m a p hp hl) [0] [] true 26 2 (by simp only[go_sem];first|done|simp) (by simp only[go_sem];first|done|simp) (by simp) (by simp) (by simp) ?_ ?_ ?_
 ·rintro res out (⟨_,rfl,rfl⟩|⟨rfl,rfl,_⟩)
  ·exact⟨by simp,by simp,.inl rfl,λi hi=>by obtain rfl:i=0:=(by omega);simp[chH,q09]⟩
  ·exact⟨by simp,by simp,.inl rfl,λi hi=>by obtain rfl:i=0:=(by omega);simp[chH,q09]⟩
 ·intro i hi
  have:i=0∨i=1:=by omega
  rcases this with rfl|rfl<;>simp only[go_sem]
 ·rintro res out (⟨h1,rfl,rfl⟩|⟨rfl,rfl,h3,_⟩)
  ·have hpo:∀c,(mOut m ⟨a,p⟩).2.2=c→q0q m ⟨n,true,⟨a,p⟩⟩ s=bif c then((mOut m ⟨a,p⟩).1,name ⟨9,(mOut m ⟨a,p⟩).2.1⟩) else(m,s):=λc hc=>by
    subst hc
    rcases hmo:mOut m ⟨a,p⟩ with⟨x,port,ok⟩
    cases ok<;>simp[q0q,hi,hmo]
   simp only[go_sem]
   cases hok:(mOut m ⟨a,p⟩).2.2<;>simp only[go_sem]
   ·exact keep _ _ (by rw[hpo _ hok];rfl) (by simp only[go_sem]) (by simp only[go_sem]) (by simp only[go_sem])
   ·have hpo:=hpo _ hok
    simp only[cond_true,h1] at hpo
    have hlt:=q2t (e:=⟨9,(mOut m ⟨a,p⟩).2.1⟩)
    with_reducible repeat' (first|refine br ?_ ?_<;>intro h e<;>(try simp only[e,go_sem])<;>clear e|rw[q01 (by omega)]|refine sd ?_<;>try simp only[go_sem]|(first|refine cr (c92 ..) ?_)<;>try simp only[go_sem]|fail)
    refine q1m _ _ [] ?_ ⟨rfl,rfl⟩ ?_ (by simp[q1c]) (by simp only[go_sem])
    ·simp only[go_sem,hpo];simp[name]
    ·simp only[go_sem,hpo]
  ·have hpo:q0q m ⟨n,true,⟨a,p⟩⟩ s=((mOut m ⟨a,p⟩).1,name ⟨9,(mOut m ⟨a,p⟩).2.1⟩):=by
    rcases hmo:mOut m ⟨a,p⟩ with⟨x,port,ok⟩
    rw[hmo] at h3
    simp only at h3
    subst h3
    simp[q0q,hi,hmo]
   simp only[go_sem,h3]
   have hlt:=q2t (e:=⟨9,(mOut m ⟨a,p⟩).2.1⟩)
   with_reducible repeat' (first|refine br ?_ ?_<;>intro h e<;>(try simp only[e,go_sem])<;>clear e|rw[q01 (by omega)]|refine sd ?_<;>try simp only[go_sem]|(first|refine cr (c92 ..) ?_)<;>try simp only[go_sem]|fail)
   refine q1m _ _ [(0,102601)] ?_ ⟨rfl,rfl⟩ ?_ (by simp[q1c]) (by simp only[go_sem])
   ·simp only[go_sem,hpo];simp[name]
   ·simp only[go_sem,hpo]
def j1k:IC:=sR [oP 8 (.mv (.c .nils)),oP 9 (.mv (.c .nils))] (sR [mV 15 1,oP 16 (.len (.t 15)),oP 17 (.mks 9 1 (.t 16)),mV 10 17] (.seq (sR [mV 18 1,oP 19 (.len (.t 18)),oP 20 (.mv (.c i0))] (.block 0 (.loop (sR [bN 21 .lss 20 19] (.seq (cD 21 .skip (.exit 0)) (.seq (.block 1 (sR [oP 22 (.iad 4 (.t 18) (.t 20)),lA 23 4 22,oP 12 (.alloc 193 [i0,.bool false,i0,i0]),nP (.sto 4 (.t 12) (.t 23))] (.seq (.drw [0,0,0,0,8,28,0,127,255,511,511,1023,4095] [(0,mV 25 0),(1,lA 26 4 12),(2,mV 27 2),(3,fD 28 0 12),(4,lD 29 1 28),(5,oP 30 (.sls (.t 27) none (some (.t 29)))),(6,mV 31 3),(7,oP 32 (.call 269 [.t 25,.t 26,.t 30,.t 31])),(8,mV 24 32),(9,eX 33 24 0),(10,eX 34 24 1),(11,mV 13 33),(12,mV 14 34)]) (sR [mV 35 13,mV 0 35] (sR [mV 36 10,mV 37 14,oP 38 (.call 150 [.t 37]),oP 39 (.bsl 9 1 [.t 38]),oP 40 (.app 9 1 (.t 36) (.t 39)),mV 10 40] (.reg [mV 41 2,fD 42 0 12,lD 43 1 42,oP 44 (.sls (.t 41) (some (.t 43)) none),mV 2 44])))))) (.reg [oP 45 (.bin .add (.t 20) (cI 1)),mV 20 45]))))))) (sR [mV 46 0,mV 47 10,mV 8 46,mV 9 47] .ret)))
theorem dg265:Dg Tryz.prog 265 Tryz.f265 j1k [(.t 8),(.t 9)]:=⟨Tryz.func265,by kernel_rfl,by kernel_rfl⟩
theorem c265 (m:List Pair) (l:List Pc) (s:B) (out:Bool) (hp:PortsOk m) (hm:m.length≤100) (hl:l.length≤1000) (hs:s.length≤1000) (hf:fits l s) :
 FnR Tryz.prog G 265 [.sl 3 (m.map Pair.row),.sl 4 (l.map Pc.row),.str s,.bool out] (.tup [.sl 3 ((turned m l s out).1.map Pair.row),.sl 1 ((turned m l s out).2.map λx=>[.str x])]):=by
 refine mF dg265 Tryz.ntmps265 ?_
 simp only[j1k,go_sem]
 with_reducible repeat' (first|refine br ?_ ?_<;>intro h e<;>(try simp only[e,go_sem])<;>clear e|rw[q01 (by omega)]|refine sd ?_<;>try simp only[go_sem]|fail)
 refine q0v (λa:List Pair×B×List B×Nat=>⟨q0i [(0,.sl 3 (a.1.map Pair.row)),(2,.str a.2.1),(3,.bool out),(10,.own 1017 a.2.2.1.length),(18,.sl 4 (l.map Pc.row)),(19,.int .i64 l.length),(20,.int .i64 (a.2.2.2:Int))],q0c [(1017,.arr 9 1 (a.2.2.1.map λx=>[.str x]))]⟩)
  (λa=>l.length - a.2.2.2) (λa=>a.2.2.2≤l.length∧PortsOk a.1∧a.1.length≤m.length+a.2.2.2∧a.2.1.length≤1000∧a.2.2.1.length=a.2.2.2∧fits (l.drop a.2.2.2) a.2.1 ∧
    turned m l s out=((turned a.1 (l.drop a.2.2.2) a.2.1 out).1,a.2.2.1++(turned a.1 (l.drop a.2.2.2) a.2.1 out).2)) (m,s,[],0)
  (leN [] (by simp only[go_sem];first|done|rfl) (by simp only[go_sem];first|done|rfl) (by simp[q0o]) (by simp only[go_sem])) ⟨by simp,hp,by simp,hs,rfl,by simpa using hf,by simp⟩ ?_
 intro⟨mm,ss,ts,i⟩ ⟨h1,h2,h3,h4,h5,h6,h7⟩
 simp only at h1 h2 h3 h4 h5 h6 h7
 simp only[go_sem]
 by_cases h:(i:Int)<l.length
 ·have hil:i<l.length:=by omega
  have hg:l.getD i default=l[i]:=by simp[List.getD,hil]
  rw[List.drop_eq_getElem_cons hil] at h6 h7
  generalize hq:l[i]=q at *
  simp only[eq_true h,go_sem]
  refine effG (by omega) ?_
  simp only[hg,go_sem]
  obtain⟨f1,f2⟩:=h6
  with_reducible repeat' (first|refine br ?_ ?_<;>intro h e<;>(try simp only[e,go_sem])<;>clear e|rw[q01 (by omega)]|refine sd ?_<;>try simp only[go_sem]|fail)
  have ht:=qf2 mm q (ss.take q.size) out
  simp only[List.length_take] at ht
  refine q0r (c269 mm q.size q.named q.e.a q.e.p _ out h2 (by omega)) rfl rfl ?_
  simp only[go_sem]
  have h2':=h2.turn q (ss.take q.size) out
  generalize htt:turn mm q (ss.take q.size) out=r at *
  with_reducible repeat' (first|refine br ?_ ?_<;>intro h e<;>(try simp only[e,go_sem])<;>clear e|rw[q01 (by omega)]|refine sd ?_<;>try simp only[go_sem]|(first|refine cr (qcy ..) ?_)<;>try simp only[go_sem]|fail)
  refine⟨(r.1,ss.drop q.size,ts++[r.2],i+1),by simp;omega,⟨by simp;omega,h2',by simp;omega,by simp;omega,by simp;omega,f2, ?_⟩,leN [(1017,1040)] ?_ ?_ (by simp[q0o]) (by simp only[go_sem])⟩
  ·rw[h7];simp[turned,htt]
  ·simp only[go_sem];simp
  ·simp only[go_sem];simp
 ·simp only[eq_false h,go_sem]
  have:i=l.length:=by omega
  subst this
  rw[h7]
  simp[turned]
def qzw:IC:=sR [oP 2 (.mv cF)] (.seq (sR [oP 3 (.mv (.c i0))] (.block 0 (.loop (.seq (sR [mV 5 3,mV 6 0,oP 7 (.len (.t 6)),bN 8 .lss 5 7] (cD 8 .skip (.exit 0))) (.seq (.block 1 (.seq (sR [mV 11 0,mV 12 3,oP 13 (.iad 3 (.t 11) (.t 12)),fD 14 0 13,lD 15 1 14,mV 16 3,oP 17 (.bin .add (cI 10) (.t 16)),bN 18 .neq 15 17,mV 19 18,gF 20 19 (.mv (.t 0)),gF 21 19 (.mv (.t 3)),gF 22 19 (.iad 3 (.t 20) (.t 21)),gF 23 19 (.fad 1 (.t 22)),gF 24 19 (.ld 2 true (.t 23)),gF 25 19 (.call 109 [.t 24]),gF 26 19 (.un .not (.t 25)),pT 27 19 26] (cD 27 (sR [oP 2 (.mv cF)] .ret) .skip)) (sR [oP 4 (.mv (.c i0))] (.block 2 (.loop (.seq (sR [mV 28 4,mV 29 3,bN 30 .lss 28 29] (cD 30 .skip (.exit 2))) (.seq (.block 3 (.seq (.drw [0,0,3,7,15,0,0,96,224,480,1023] [(0,mV 33 0),(1,mV 34 4),(2,oP 35 (.iad 3 (.t 33) (.t 34))),(3,fD 36 1 35),(4,lA 37 2 36),(5,mV 38 0),(6,mV 39 3),(7,oP 40 (.iad 3 (.t 38) (.t 39))),(8,fD 41 1 40),(9,lA 42 2 41),(10,oP 43 (.eqs false [.i,.i] (.t 37) (.t 42)))]) (cD 43 (sR [oP 2 (.mv cF)] .ret) .skip))) (.reg [mV 31 4,oP 32 (.bin .add (.t 31) (cI 1)),mV 4 32])))))))) (.reg [mV 9 3,oP 10 (.bin .add (.t 9) (cI 1)),mV 3 10])))))) (sR [mV 44 0,oP 45 (.len (.t 44)),oP 46 (.bin .leq (.t 45) (cI 8)),mV 2 46] .ret))
theorem dg228:Dg Tryz.prog 228 Tryz.f228 qzw [(.t 2)]:=⟨Tryz.func228,by kernel_rfl,by kernel_rfl⟩
theorem c228 (m:List Pair) (hl:m.length≤2000000:=by omega):FnR Tryz.prog G 228 [.sl 3 (m.map Pair.row)] (.bool (mapOk m)):=by
 refine mF dg228 Tryz.ntmps228 ?_
 simp only[qzw,go_sem]
 refine q0v (λi:Nat=>⟨q0i [(0,.sl 3 (m.map Pair.row)),(3,.int .i64 (i:Int))],q0c []⟩) (λi=>m.length - i) (λi=>i≤m.length∧∀j,j<i→q4b m j=true) 0 (leQ []) ⟨Nat.zero_le _,by omega⟩ ?_
 intro i ⟨hi,ha⟩
 simp only[go_sem]
 by_cases h:(i:Int)<m.length
 ·simp only[eq_true h,go_sem]
  refine effG (by omega) ?_
  have hil:i<m.length:=by omega
  have hg:m.getD i default=m[i]:=by simp[List.getD,hil]
  have hok:=qlj hil
  simp only[hg,go_sem]
  have hw:IntKind.i64.wrap (10+(i:Int))=10+i:=q01 (by omega)
  simp only[hw]
  with_reducible repeat' (first|refine br ?_ ?_<;>intro h e<;>(try simp only[e,go_sem,hg])<;>clear e|rw[q01 (by omega)]|refine sd ?_<;>try simp only[go_sem,hg]|(first|refine cr (qua ..) ?_)<;>try simp only[go_sem,hg]|fail)
  ·exact q9b hil (by rw[hok];simp at h;simp[h])
  ·rename_i h1
   have h1':m[i].port=10+(i:Int):=by simpa using h1
   rw[h1',h] at hok
   refine q0v (λk:Nat=>⟨q0i [(0,.sl 3 (m.map Pair.row)),(3,.int .i64 (i:Int)),(4,.int .i64 (k:Int))],q0c []⟩) (λk=>i - k) (λk=>k≤i∧((m.take k).any λq=>decide (q.ins=m[i].ins))=false) 0 (leQ []) ⟨Nat.zero_le _,by simp⟩ ?_
   intro k ⟨hk,hka⟩
   simp only[go_sem]
   by_cases hki:(k:Int)<i
   ·have hkl:k<m.length:=by omega
    have hgk:m.getD k default=m[k]:=by simp[List.getD,hkl]
    have hst:((m.take (k+1)).any λq=>decide (q.ins=m[i].ins))=(((m.take k).any λq=>decide (q.ins=m[i].ins))||decide (m[k].ins=m[i].ins)):=by
     rw[List.take_add_one,zE hkl]
     simp only[Option.toList_some,List.any_append,List.any_cons,List.any_nil,Bool.or_false]
    simp only[eq_true hki,go_sem,hgk,hg,E.ext_iff']
    with_reducible repeat' (first|refine br ?_ ?_<;>intro h e<;>(try simp only[e,go_sem,hgk,hg,E.ext_iff'])<;>clear e|rw[q01 (by omega)]|refine sd ?_<;>try simp only[go_sem,hgk,hg,E.ext_iff']|fail)
    ·refine q9b hil ?_
     rw[hok]
     have:((m.take i).any λq=>decide (q.ins=m[i].ins))=true:=by
      rw[List.any_eq_true]
      refine⟨m[k], ?_,by simpa using h⟩
      rw[List.mem_iff_getElem?]
      exact⟨k,by rw[List.getElem?_take,if_pos (by omega),zE hkl]⟩
     simp[this]
    ·refine⟨k+1,by omega,⟨by omega, ?_⟩,(leQ [])⟩
     rw[hst,hka];simpa using h
   ·simp only[eq_false hki,go_sem]
    have:k=i:=by omega
    subst this
    rw[hka] at hok
    with_reducible repeat' (first|refine br ?_ ?_<;>intro h e<;>(try simp only[e,go_sem])<;>clear e|rw[q01 (by omega)]|refine sd ?_<;>try simp only[go_sem]|fail)
    refine⟨k+1,by omega,⟨by omega,λj hj=>?_⟩,(leQ [])⟩
    rcases Nat.lt_or_ge j k with hji|hji
    ·exact ha j hji
    ·obtain rfl:j=k:=by omega
     rw[hok];simp
  ·exact q9b hil (by rw[hok];simp[h])
 ·simp only[eq_false h,go_sem]
  have:i=m.length:=by omega
  subst this
  have:(List.range m.length).all (q4b m)=true:=by
   rw[List.all_eq_true];intro j hj;exact ha j (List.mem_range.1 hj)
  simp only[mapOk,this,Bool.true_and]
  apply decide_eq_decide.2;omega
def j1w:IC:=sR [oP 6 (.mv (.c s0)),oP 7 (.mv cF)] (.seq (sR [mV 8 1,mV 9 0,oP 10 (.lens (.t 9)),bN 11 .gtr 8 10,mV 12 11,gF 13 12 (.mv (.t 1)),gF 14 12 (.mv (.t 2)),gF 15 12 (.lens (.t 14)),gF 16 12 (.bin .add (.t 13) (.t 15)),gF 17 12 (.bin .gtr (.t 16) (cI 40)),pT 18 12 17] (cD 18 (sR [mV 19 0,mV 6 19,oP 7 (.mv cF)] .ret) .skip)) (.seq (sR [mV 20 1,mV 21 2,oP 22 (.lens (.t 21)),bN 23 .add 20 22,mV 24 0,oP 25 (.lens (.t 24)),bN 26 .leq 23 25] (cD 26 (sR [mV 27 0,mV 6 27,oP 7 (.mv cT)] .ret) .skip)) (sR [mV 28 0,mV 29 2,mV 30 0,oP 31 (.lens (.t 30)),mV 32 1,bN 33 .sub 31 32,oP 34 (.sls (.t 29) (some (.t 33)) none),bN 35 .add 28 34,mV 6 35,oP 7 (.mv cT)] .ret)))
theorem dg172:Dg Tryz.prog 172 Tryz.f172 j1w [(.t 6),(.t 7)]:=⟨Tryz.func172,by kernel_rfl,by kernel_rfl⟩
theorem c172 (came:B) (n:Int) (text:B) (hn:0≤n∧n≤1000) (hc:came.length≤1000) (ht:text.length≤1000):FnR Tryz.prog G 172 [.str came,.int .i64 n,.str text] (.tup [.str (q0b came n text).1,.bool (q0b came n text).2]):=by
 refine mF dg172 Tryz.ntmps172 ?_
 simp only[j1w,go_sem]
 with_reducible repeat' (first|rw[q01 (by omega)];try simp only[go_sem]|refine br ?_ ?_<;>intro h e<;>(try simp only[e,go_sem])<;>clear e|refine sd ?_<;>try simp only[go_sem]|fail)
 ·have:q0b came n text=(came,false):=by
   unfold q0b;rw[if_pos (by simp;omega)]
  rw[this];exact⟨rfl,rfl⟩
 ·have:q0b came n text=(came,false):=by
   unfold q0b;rw[if_pos (by simp;omega)]
  rw[this];exact⟨rfl,rfl⟩
 ·have:q0b came n text=(came,true):=by
   unfold q0b;rw[if_neg (by simp;omega),if_pos (by omega)]
  rw[this];exact⟨rfl,rfl⟩
 ·refine pureG (by simp;omega) ?_
  simp only[go_sem]
  have:q0b came n text=(came++text.drop (came.length - n).toNat,true):=by
   unfold q0b;rw[if_neg (by simp;omega),if_neg (by omega)]
  rw[this,List.take_length];exact⟨rfl,rfl⟩
theorem qda {ps:List Part} {qs:List Pc} {i:Nat} (h:i<ps.length) (hl:ps.length=qs.length):q0x (ps.drop i) (qs.drop i)=(q63 (ps.getD i default) (qs.getD i default)&&q0x (ps.drop (i+1)) (qs.drop (i+1))):=by
 rw[List.drop_eq_getElem_cons h,List.drop_eq_getElem_cons (show i<qs.length by omega)]
 simp[q0x,List.getD,h,show i<qs.length by omega]
theorem qgs:∀ {ps:List Part} {qs:List Pc},ps.length≠qs.length→q0x ps qs=false:=fun {ps qs} h=>by
 cases hc:q0x ps qs with
 | false=>rfl
 | true=>exact absurd (q53 hc) h
def j06:IC:=sR [oP 1 (.box 167 (.t 0)),oP 2 (.mv (.c s0))] (sR [oP 3 (.mv (.c s0))] (.seq (sR [oP 4 (.mv (.c i0))] (.block 0 (.loop (.seq (sR [mV 5 4,fD 6 1 1,lD 7 1 6,oP 8 (.len (.t 7)),bN 9 .lss 5 8] (cD 9 .skip (.exit 0))) (.seq (.block 1 (.reg [mV 12 3,fD 13 1 1,lD 14 1 13,mV 15 4,oP 16 (.iad 2 (.t 14) (.t 15)),fD 17 1 16,lD 18 1 17,bN 19 .add 12 18,mV 3 19])) (.reg [mV 10 4,oP 11 (.bin .add (.t 10) (cI 1)),mV 4 11])))))) (sR [mV 20 3,mV 2 20] .ret)))
theorem dg236:Dg Tryz.prog 236 Tryz.f236 j06 [(.t 2)]:=⟨Tryz.func236,by kernel_rfl,by kernel_rfl⟩
theorem c236 (s:Strm) (h:StrB s):FnR Tryz.prog G 236 [.agg [.str s.inn,.sl 2 (s.parts.map Part.row)]] (.str (sOut s)):=by
 refine mF dg236 Tryz.ntmps236 ?_
 obtain⟨h1,h2,h3⟩:=h
 have hol:=qjt (l:=s.parts) λp hp=>(h3 p hp).2.2.1
 simp only[j06,go_sem]
 refine q0v (λi:Nat=>⟨q0i [(1,.pv 1001 0),(3,.str (qo7 (s.parts.take i))),(4,.int .i64 (i:Int))],q0c [(1001,.var 167 [.str s.inn,.sl 2 (s.parts.map Part.row)])]⟩) (λi=>s.parts.length - i) (λi=>i≤s.parts.length) 0 (leQ []) (Nat.zero_le _) ?_
 intro i hi
 simp only[go_sem]
 by_cases h:(i:Int)<s.parts.length
 ·have hil:i<s.parts.length:=by omega
  have hst:=qim hil
  have ho:=hol i
  have h3':=(h3 _ (List.getElem_mem hil)).2.2.1
  have hg:s.parts.getD i default=s.parts[i]:=by simp[List.getD,hil]
  simp only[eq_true h,go_sem]
  refine effG (by omega) ?_
  simp only[hg,go_sem]
  with_reducible repeat' (first|rw[q01 (by omega)];try simp only[go_sem]|refine br ?_ ?_<;>intro h e<;>(try simp only[e,go_sem])<;>clear e|refine sd ?_<;>try simp only[go_sem]|fail)
  exact⟨i+1,by omega,by omega,leN [] (by simp only[go_sem,hst];omega) (by simp only[go_sem]) (by simp[q0o]) (by simp only[go_sem])⟩
 ·simp only[eq_false h,go_sem]
  have:i=s.parts.length:=by omega
  subst this
  rw[List.take_length];rfl
def qzu:IC:=sR [oP 1 (.box 167 (.t 0)),oP 2 (.mv (.c i0))] (sR [oP 3 (.mv (.c i0))] (.seq (sR [oP 4 (.mv (.c i0))] (.block 0 (.loop (.seq (sR [mV 5 4,fD 6 1 1,lD 7 1 6,oP 8 (.len (.t 7)),bN 9 .lss 5 8] (cD 9 .skip (.exit 0))) (.seq (.block 1 (.reg [mV 12 3,fD 13 1 1,lD 14 1 13,mV 15 4,oP 16 (.iad 2 (.t 14) (.t 15)),fD 17 0 16,lD 18 1 17,bN 19 .add 12 18,mV 3 19])) (.reg [mV 10 4,oP 11 (.bin .add (.t 10) (cI 1)),mV 4 11])))))) (sR [mV 20 3,mV 2 20] .ret)))
theorem dg258:Dg Tryz.prog 258 Tryz.f258 qzu [(.t 2)]:=⟨Tryz.func258,by kernel_rfl,by kernel_rfl⟩
theorem c258 (s:Strm) (h:StrB s):FnR Tryz.prog G 258 [.agg [.str s.inn,.sl 2 (s.parts.map Part.row)]] (.int .i64 (doneP s.parts)):=by
 refine mF dg258 Tryz.ntmps258 ?_
 obtain⟨h1,h2,h3⟩:=h
 have hol:=qfn (l:=s.parts) λp hp=>(h3 p hp).1.2
 simp only[qzu,go_sem]
 refine q0v (λi:Nat=>⟨q0i [(1,.pv 1001 0),(3,.int .i64 (doneP (s.parts.take i))),(4,.int .i64 (i:Int))],q0c [(1001,.var 167 [.str s.inn,.sl 2 (s.parts.map Part.row)])]⟩) (λi=>s.parts.length - i) (λi=>i≤s.parts.length) 0 (leQ []) (Nat.zero_le _) ?_
 intro i hi
 simp only[go_sem]
 by_cases h:(i:Int)<s.parts.length
 ·have hil:i<s.parts.length:=by omega
  have hst:=qa4 hil
  have ho:=hol i
  have h3':=(h3 _ (List.getElem_mem hil)).1
  have hg:s.parts.getD i default=s.parts[i]:=by simp[List.getD,hil]
  simp only[eq_true h,go_sem]
  refine effG (by omega) ?_
  simp only[hg,go_sem]
  with_reducible repeat' (first|rw[q01 (by omega)];try simp only[go_sem]|refine br ?_ ?_<;>intro h e<;>(try simp only[e,go_sem])<;>clear e|refine sd ?_<;>try simp only[go_sem]|fail)
  exact⟨i+1,by omega,by omega,leN [] (by simp only[go_sem,hst];omega) (by simp only[go_sem]) (by simp[q0o]) (by simp only[go_sem])⟩
 ·simp only[eq_false h,go_sem]
  have:i=s.parts.length:=by omega
  subst this
  rw[List.take_length]
def qyj:IC:=sR [oP 2 (.box 167 (.t 0)),oP 4 (.mv (.c i0))] (sR [oP 5 (.mv (.c i0))] (.seq (sR [oP 6 (.mv (.c i0))] (.block 0 (.loop (.seq (sR [mV 7 6,fD 8 1 2,lD 9 1 8,oP 10 (.len (.t 9)),bN 11 .lss 7 10,mV 12 11,gT 13 12 (.fad 1 (.t 2)),gT 14 12 (.ld 1 false (.t 13)),gT 15 12 (.mv (.t 6)),gT 16 12 (.iad 2 (.t 14) (.t 15)),gT 17 12 (.fad 0 (.t 16)),gT 18 12 (.ld 1 false (.t 17)),gT 19 12 (.mv (.t 1)),gT 20 12 (.bin .leq (.t 18) (.t 19)),pF 21 12 20] (cD 21 .skip (.exit 0))) (.seq (.block 1 (sR [mV 24 1,fD 25 1 2,lD 26 1 25,mV 27 6,oP 28 (.iad 2 (.t 26) (.t 27)),fD 29 0 28,lD 30 1 29,bN 31 .sub 24 30,mV 1 31] (.reg [mV 32 5,fD 33 1 2,lD 34 1 33,mV 35 6,oP 36 (.iad 2 (.t 34) (.t 35)),fD 37 1 36,lD 38 1 37,oP 39 (.lens (.t 38)),bN 40 .add 32 39,mV 5 40]))) (.reg [mV 22 6,oP 23 (.bin .add (.t 22) (cI 1)),mV 6 23])))))) (sR [mV 41 5,mV 4 41] .ret)))
theorem dg261:Dg Tryz.prog 261 Tryz.f261 qyj [(.t 4)]:=⟨Tryz.func261,by kernel_rfl,by kernel_rfl⟩
theorem c261 (s:Strm) (n:Int) (h:StrB s) (hn : -10000≤n∧n≤10000):FnR Tryz.prog G 261 [.agg [.str s.inn,.sl 2 (s.parts.map Part.row)],.int .i64 n] (.int .i64 (q0s s.parts n)):=by
 refine mF dg261 Tryz.ntmps261 ?_
 obtain⟨h1,h2,h3⟩:=h
 simp only[qyj,go_sem]
 refine q0v (λa:Nat×Int×Int=>⟨q0i [(1,.int .i64 a.2.1),(2,.pv 1002 0),(5,.int .i64 a.2.2),(6,.int .i64 (a.1:Int))],q0c [(1002,.var 167 [.str s.inn,.sl 2 (s.parts.map Part.row)])]⟩) (λa=>s.parts.length - a.1)
  (λa=>a.1≤s.parts.length∧q0s s.parts n=a.2.2+q0s (s.parts.drop a.1) a.2.1∧(-20000≤a.2.1∧a.2.1≤10000) ∧ -10000 - 6*a.1≤a.2.1∧0≤a.2.2∧a.2.2≤6*a.1) (0,n,0) (leQ []) ⟨Nat.zero_le _,by simp,⟨by simp;omega,by simp;omega⟩,by simp;omega,by simp,by simp⟩ ?_
 intro⟨i,x,y⟩ ⟨hi,ha,hx,hx2,hy,hy2⟩
 simp only at hi ha hx hx2 hy hy2
 simp only[go_sem]
 by_cases h:(i:Int)<s.parts.length
 ·have hil:i<s.parts.length:=by omega
  have h3':=h3 _ (List.getElem_mem hil)
  have hg:s.parts.getD i default=s.parts[i]:=by simp[List.getD,hil]
  rw[List.drop_eq_getElem_cons hil] at ha
  simp only[q0s] at ha
  simp only[eq_true h,go_sem]
  refine effG (by omega) ?_
  simp only[hg,go_sem]
  with_reducible repeat' (first|rw[q01 (by omega)];try simp only[go_sem,hg]|refine br ?_ ?_<;>intro h e<;>(try simp only[e,go_sem,hg])<;>clear e|refine sd ?_<;>try simp only[go_sem,hg]|fail)
  ·rw[if_pos h] at ha
   exact⟨(i+1,x - s.parts[i].size,y+s.parts[i].text.length),by simp;omega,⟨by simp;omega,by simp only;rw[ha];omega,by simp only;omega,by simp only;omega,by simp only;omega,by simp only;omega⟩,(leQ [])⟩
  ·rw[if_neg h] at ha
   rw[ha];omega
 ·simp only[eq_false h,go_sem]
  have:i=s.parts.length:=by omega
  subst this
  rw[ha,List.drop_length];simp[q0s]
def qxb:IC:=sR [oP 2 (.box 167 (.t 0)),oP 4 (.mv (.c i0))] (sR [oP 5 (.mv (.c i0))] (.seq (sR [oP 6 (.mv (.c i0))] (.block 0 (.loop (.seq (sR [mV 7 6,fD 8 1 2,lD 9 1 8,oP 10 (.len (.t 9)),bN 11 .lss 7 10,mV 12 11,gT 13 12 (.fad 1 (.t 2)),gT 14 12 (.ld 1 false (.t 13)),gT 15 12 (.mv (.t 6)),gT 16 12 (.iad 2 (.t 14) (.t 15)),gT 17 12 (.fad 1 (.t 16)),gT 18 12 (.ld 1 false (.t 17)),gT 19 12 (.lens (.t 18)),gT 20 12 (.mv (.t 1)),gT 21 12 (.bin .leq (.t 19) (.t 20)),pF 22 12 21] (cD 22 .skip (.exit 0))) (.seq (.block 1 (sR [mV 25 1,fD 26 1 2,lD 27 1 26,mV 28 6,oP 29 (.iad 2 (.t 27) (.t 28)),fD 30 1 29,lD 31 1 30,oP 32 (.lens (.t 31)),bN 33 .sub 25 32,mV 1 33] (.reg [mV 34 5,fD 35 1 2,lD 36 1 35,mV 37 6,oP 38 (.iad 2 (.t 36) (.t 37)),fD 39 0 38,lD 40 1 39,bN 41 .add 34 40,mV 5 41]))) (.reg [mV 23 6,oP 24 (.bin .add (.t 23) (cI 1)),mV 6 24])))))) (sR [mV 42 5,mV 4 42] .ret)))
theorem dg237:Dg Tryz.prog 237 Tryz.f237 qxb [(.t 4)]:=⟨Tryz.func237,by kernel_rfl,by kernel_rfl⟩
theorem c237 (s:Strm) (n:Int) (h:StrB s) (hn : -10000≤n∧n≤10000):FnR Tryz.prog G 237 [.agg [.str s.inn,.sl 2 (s.parts.map Part.row)],.int .i64 n] (.int .i64 (backP s.parts n)):=by
 refine mF dg237 Tryz.ntmps237 ?_
 obtain⟨h1,h2,h3⟩:=h
 simp only[qxb,go_sem]
 refine q0v (λa:Nat×Int×Int=>⟨q0i [(1,.int .i64 a.2.1),(2,.pv 1002 0),(5,.int .i64 a.2.2),(6,.int .i64 (a.1:Int))],q0c [(1002,.var 167 [.str s.inn,.sl 2 (s.parts.map Part.row)])]⟩) (λa=>s.parts.length - a.1)
  (λa=>a.1≤s.parts.length∧backP s.parts n=a.2.2+backP (s.parts.drop a.1) a.2.1∧(-20000≤a.2.1∧a.2.1≤10000) ∧ -10000 - 6*a.1≤a.2.1∧0≤a.2.2∧a.2.2≤6*a.1) (0,n,0) (leQ []) ⟨Nat.zero_le _,by simp,⟨by simp;omega,by simp;omega⟩,by simp;omega,by simp,by simp⟩ ?_
 intro⟨i,x,y⟩ ⟨hi,ha,hx,hx2,hy,hy2⟩
 simp only at hi ha hx hx2 hy hy2
 simp only[go_sem]
 by_cases h:(i:Int)<s.parts.length
 ·have hil:i<s.parts.length:=by omega
  have h3':=h3 _ (List.getElem_mem hil)
  have hg:s.parts.getD i default=s.parts[i]:=by simp[List.getD,hil]
  rw[List.drop_eq_getElem_cons hil] at ha
  simp only[backP] at ha
  simp only[eq_true h,go_sem]
  refine effG (by omega) ?_
  simp only[hg,go_sem]
  with_reducible repeat' (first|rw[q01 (by omega)];try simp only[go_sem,hg]|refine br ?_ ?_<;>intro h e<;>(try simp only[e,go_sem,hg])<;>clear e|refine sd ?_<;>try simp only[go_sem,hg]|fail)
  ·rw[if_pos h] at ha
   exact⟨(i+1,x - s.parts[i].text.length,y+s.parts[i].size),by simp;omega,⟨by simp;omega,by simp only;rw[ha];omega,by simp only;omega,by simp only;omega,by simp only;omega,by simp only;omega⟩,(leQ [])⟩
  ·rw[if_neg h] at ha
   rw[ha];omega
 ·simp only[eq_false h,go_sem]
  have:i=s.parts.length:=by omega
  subst this
  rw[ha,List.drop_length];simp[backP]
def qz7:IC:=sR [oP 2 (.box 167 (.t 0)),oP 4 (.mv (.c i0))] (sR [oP 5 (.mv (.c i0))] (.seq (sR [fD 8 1 2,lD 9 1 8,oP 10 (.len (.t 9)),oP 11 (.mv (.c i0))] (.block 0 (.loop (sR [bN 12 .lss 11 10] (.seq (cD 12 .skip (.exit 0)) (.seq (.block 1 (sR [oP 13 (.iad 2 (.t 9) (.t 11)),lA 14 2 13,oP 7 (.alloc 204 [i0,s0]),nP (.sto 2 (.t 7) (.t 14))] (.seq (sR [mV 15 1,fD 16 0 7,lD 17 1 16,bN 18 .sub 15 17,mV 1 18] (sR [mV 19 1,oP 20 (.bin .lss (.t 19) (.c i0))] (cD 20 (.exit 0) .skip))) (.reg [mV 21 5,fD 22 1 7,lD 23 1 22,oP 24 (.lens (.t 23)),bN 25 .add 21 24,mV 5 25])))) (.reg [oP 26 (.bin .add (.t 11) (cI 1)),mV 11 26]))))))) (sR [mV 27 5,mV 4 27] .ret)))
theorem dg249:Dg Tryz.prog 249 Tryz.f249 qz7 [(.t 4)]:=⟨Tryz.func249,by kernel_rfl,by kernel_rfl⟩
theorem qpl (s:Strm) (n:Int) (h:StrB s) (hn : -10000≤n∧n≤10000):FnR Tryz.prog G 249 [.agg [.str s.inn,.sl 2 (s.parts.map Part.row)],.int .i64 n] (.int .i64 (q0s s.parts n)):=by
 refine mF dg249 Tryz.ntmps249 ?_
 obtain⟨h1,h2,h3⟩:=h
 simp only[qz7,go_sem]
 refine q0v (λa:Nat×Int×Int=>⟨q0i [(1,.int .i64 a.2.1),(5,.int .i64 a.2.2),(9,.sl 2 (s.parts.map Part.row)),(10,.int .i64 s.parts.length),(11,.int .i64 (a.1:Int))],q0c []⟩) (λa=>s.parts.length - a.1)
  (λa=>a.1≤s.parts.length∧q0s s.parts n=a.2.2+q0s (s.parts.drop a.1) a.2.1∧(-20000≤a.2.1∧a.2.1≤10000) ∧ -10000 - 6*a.1≤a.2.1∧0≤a.2.2∧a.2.2≤6*a.1) (0,n,0) (leQ []) ⟨Nat.zero_le _,by simp,⟨by simp;omega,by simp;omega⟩,by simp;omega,by simp,by simp⟩ ?_
 intro⟨i,x,y⟩ ⟨hi,ha,hx,hx2,hy,hy2⟩
 simp only at hi ha hx hx2 hy hy2
 simp only[go_sem]
 by_cases h:(i:Int)<s.parts.length
 ·have hil:i<s.parts.length:=by omega
  have h3':=h3 _ (List.getElem_mem hil)
  have hg:s.parts.getD i default=s.parts[i]:=by simp[List.getD,hil]
  rw[List.drop_eq_getElem_cons hil] at ha
  simp only[q0s] at ha
  simp only[eq_true h,go_sem]
  refine effG (by omega) ?_
  simp only[hg,go_sem]
  with_reducible repeat' (first|rw[q01 (by omega)];try simp only[go_sem,hg]|refine br ?_ ?_<;>intro h e<;>(try simp only[e,go_sem,hg])<;>clear e|refine sd ?_<;>try simp only[go_sem,hg]|fail)
  ·rw[if_neg (by omega)] at ha
   rw[ha];omega
  ·rw[if_pos (by omega)] at ha
   exact⟨(i+1,x - s.parts[i].size,y+s.parts[i].text.length),by simp;omega,⟨by simp;omega,by simp only;rw[ha];omega,by simp only;omega,by simp only;omega,by simp only;omega,by simp only;omega⟩,(leQ [])⟩
 ·simp only[eq_false h,go_sem]
  have:i=s.parts.length:=by omega
  subst this
  rw[ha,List.drop_length];simp[q0s]
def j20:IC:=sR [oP 2 (.box 167 (.t 0)),oP 4 (.mv (.c i0))] (sR [oP 5 (.mv (.c i0))] (.seq (sR [fD 8 1 2,lD 9 1 8,oP 10 (.len (.t 9)),oP 11 (.mv (.c i0))] (.block 0 (.loop (sR [bN 12 .lss 11 10] (.seq (cD 12 .skip (.exit 0)) (.seq (.block 1 (sR [oP 13 (.iad 2 (.t 9) (.t 11)),lA 14 2 13,oP 7 (.alloc 204 [i0,s0]),nP (.sto 2 (.t 7) (.t 14))] (.seq (sR [mV 15 1,fD 16 1 7,lD 17 1 16,oP 18 (.lens (.t 17)),bN 19 .sub 15 18,mV 1 19] (sR [mV 20 1,oP 21 (.bin .lss (.t 20) (.c i0))] (cD 21 (.exit 0) .skip))) (.reg [mV 22 5,fD 23 0 7,lD 24 1 23,bN 25 .add 22 24,mV 5 25])))) (.reg [oP 26 (.bin .add (.t 11) (cI 1)),mV 11 26]))))))) (sR [mV 27 5,mV 4 27] .ret)))
theorem dg247:Dg Tryz.prog 247 Tryz.f247 j20 [(.t 4)]:=⟨Tryz.func247,by kernel_rfl,by kernel_rfl⟩
theorem c247 (s:Strm) (n:Int) (h:StrB s) (hn : -10000≤n∧n≤10000):FnR Tryz.prog G 247 [.agg [.str s.inn,.sl 2 (s.parts.map Part.row)],.int .i64 n] (.int .i64 (backP s.parts n)):=by
 refine mF dg247 Tryz.ntmps247 ?_
 obtain⟨h1,h2,h3⟩:=h
 simp only[j20,go_sem]
 refine q0v (λa:Nat×Int×Int=>⟨q0i [(1,.int .i64 a.2.1),(5,.int .i64 a.2.2),(9,.sl 2 (s.parts.map Part.row)),(10,.int .i64 s.parts.length),(11,.int .i64 (a.1:Int))],q0c []⟩) (λa=>s.parts.length - a.1)
  (λa=>a.1≤s.parts.length∧backP s.parts n=a.2.2+backP (s.parts.drop a.1) a.2.1∧(-20000≤a.2.1∧a.2.1≤10000) ∧ -10000 - 6*a.1≤a.2.1∧0≤a.2.2∧a.2.2≤6*a.1) (0,n,0) (leQ []) ⟨Nat.zero_le _,by simp,⟨by simp;omega,by simp;omega⟩,by simp;omega,by simp,by simp⟩ ?_
 intro⟨i,x,y⟩ ⟨hi,ha,hx,hx2,hy,hy2⟩
 simp only at hi ha hx hx2 hy hy2
 simp only[go_sem]
 by_cases h:(i:Int)<s.parts.length
 ·have hil:i<s.parts.length:=by omega
  have h3':=h3 _ (List.getElem_mem hil)
  have hg:s.parts.getD i default=s.parts[i]:=by simp[List.getD,hil]
  rw[List.drop_eq_getElem_cons hil] at ha
  simp only[backP] at ha
  simp only[eq_true h,go_sem]
  refine effG (by omega) ?_
  simp only[hg,go_sem]
  with_reducible repeat' (first|rw[q01 (by omega)];try simp only[go_sem,hg]|refine br ?_ ?_<;>intro h e<;>(try simp only[e,go_sem,hg])<;>clear e|refine sd ?_<;>try simp only[go_sem,hg]|fail)
  ·rw[if_neg (by omega)] at ha
   rw[ha];omega
  ·rw[if_pos (by omega)] at ha
   exact⟨(i+1,x - s.parts[i].text.length,y+s.parts[i].size),by simp;omega,⟨by simp;omega,by simp only;rw[ha];omega,by simp only;omega,by simp only;omega,by simp only;omega,by simp only;omega⟩,(leQ [])⟩
 ·simp only[eq_false h,go_sem]
  have:i=s.parts.length:=by omega
  subst this
  rw[ha,List.drop_length];simp[backP]
def quj:IC:=sR [oP 1 (.box 167 (.t 0)),oP 2 (.alloc 167 [s0,.nils])] (.seq (.drw [0,1,0,4,12,28,63,127] [(0,fD 3 0 1),(1,lD 4 1 3),(2,fD 5 1 1),(3,lD 6 1 5),(4,oP 7 (.call 210 [.t 6])),(5,oP 8 (.call 209 [.t 7])),(6,oP 9 (.build [s0,.nils] [(0,(1,.t 4)),(1,(1,.t 8))])),(7,nP (.sto 2 (.t 2) (.t 9)))]) .ret)
theorem dg175:Dg Tryz.prog 175 Tryz.f175 quj [(.cell 2 2 true)]:=⟨Tryz.func175,by kernel_rfl,by kernel_rfl⟩
theorem c175 (t:B) (rows:List (List V)) (hr:rows.length≤2000000):FnR Tryz.prog G 175 [.agg [.str t,.sl 2 rows]] (.agg [.str t,.sl 2 rows]):=by
 refine mF dg175 Tryz.ntmps175 ?_
 simp only[quj,go_sem]
 repeat' (first
  | (with_reducible refine chkI ?_ ?_;· kernel_rfl;try simp only[go_sem])
  | (refine q5b (c210 rows hr) [] 7 1 (by simp only[go_sem];first|done|simp) (by simp) (by rintro _ _ ⟨rfl,rfl⟩;simp) (by intro i hi;obtain rfl:i=0:=(by omega);simp only[go_sem]) ?_;rintro _ _ ⟨rfl,rfl⟩;simp only[go_sem])
  | (refine q25 (o209 rows rows.length rfl) [100700] [] 8 1 (by simp only[go_sem];first|done|simp) (by simp only[go_sem];first|done|simp) (by simp) (by simp) (by rintro _ _ ⟨rfl,rfl⟩;simp) (by intro i hi;obtain rfl:i=0:=(by omega);simp only[go_sem]) ?_;rintro _ _ ⟨rfl,rfl⟩;simp only[go_sem])
  | kernel_rfl)
def qvh:IC:=sR [oP 1 (.box 167 (.t 0)),oP 2 (.alloc 167 [s0,.nils])] (.seq (.drw [0,1,0,0,8,28,63,127] [(0,fD 3 0 1),(1,lD 4 1 3),(2,oP 5 (.bsl 204 2 [])),(3,fD 6 1 1),(4,lD 7 1 6),(5,oP 8 (.app 204 2 (.t 5) (.t 7))),(6,oP 9 (.build [s0,.nils] [(0,(1,.t 4)),(1,(1,.t 8))])),(7,nP (.sto 2 (.t 2) (.t 9)))]) .ret)
theorem dg232:Dg Tryz.prog 232 Tryz.f232 qvh [(.cell 2 2 true)]:=⟨Tryz.func232,by kernel_rfl,by kernel_rfl⟩
theorem c232 (t:B) (rows:List (List V)) (hr:rows.length≤2000000):FnR Tryz.prog G 232 [.agg [.str t,.sl 2 rows]] (.agg [.str t,.sl 2 rows]):=by
 refine mF dg232 Tryz.ntmps232 ?_
 simp only[qvh,go_sem]
 with_reducible repeat' (first|refine br ?_ ?_<;>intro h e<;>(try simp only[e,go_sem])<;>clear e|rw[q01 (by omega)]|refine sd ?_<;>try simp only[go_sem]|fail)
def j1b:IC:=sR [oP 1 (.box 167 (.t 0)),oP 2 (.mv cF)] (sR [fD 5 0 1,lD 6 1 5,oP 7 (.call 198 [.t 6]),mV 3 7] (.seq (sR [fD 8 0 1,lD 9 1 8,oP 10 (.call 161 [.t 9]),oP 11 (.un .not (.t 10)),mV 12 11,gF 13 12 (.mv (.t 3)),gF 14 12 (.len (.t 13)),gF 15 12 (.fad 1 (.t 1)),gF 16 12 (.ld 1 false (.t 15)),gF 17 12 (.len (.t 16)),gF 18 12 (.bin .neq (.t 14) (.t 17)),pT 19 12 18] (cD 19 (sR [oP 2 (.mv cF)] .ret) .skip)) (.seq (sR [oP 4 (.mv (.c i0))] (.block 0 (.loop (.seq (sR [mV 20 4,mV 21 3,oP 22 (.len (.t 21)),bN 23 .lss 20 22] (cD 23 .skip (.exit 0))) (.seq (.block 1 (.seq (.drw [0,1,0,7,15,31,0,0,192,448,960,2047,4095,8191,16383,8191,65535,131071,262143,524287,1048575,2097151,4194303,8388607,16777215,8388607,67108863,134217727,268435455,536870911,1073741823,2147483647,4294967295,8589934591,4294967295,34359738367,68719476735,137438953471,274877906943,549755813887,1099511627775] [(0,fD 26 1 1),(1,lD 27 1 26),(2,mV 28 4),(3,oP 29 (.iad 2 (.t 27) (.t 28))),(4,fD 30 0 29),(5,lD 31 1 30),(6,mV 32 3),(7,mV 33 4),(8,oP 34 (.iad 4 (.t 32) (.t 33))),(9,fD 35 0 34),(10,lD 36 1 35),(11,bN 37 .neq 31 36),(12,mV 38 37),(13,gF 39 38 (.fad 1 (.t 1))),(14,gF 40 38 (.ld 1 false (.t 39))),(15,gF 41 38 (.mv (.t 4))),(16,gF 42 38 (.iad 2 (.t 40) (.t 41))),(17,gF 43 38 (.fad 1 (.t 42))),(18,gF 44 38 (.ld 1 false (.t 43))),(19,gF 45 38 (.lens (.t 44))),(20,gF 46 38 (.bin .gtr (.t 45) (cI 6))),(21,pT 47 38 46),(22,mV 48 47),(23,gF 49 48 (.fad 1 (.t 1))),(24,gF 50 48 (.ld 1 false (.t 49))),(25,gF 51 48 (.mv (.t 4))),(26,gF 52 48 (.iad 2 (.t 50) (.t 51))),(27,gF 53 48 (.fad 1 (.t 52))),(28,gF 54 48 (.ld 1 false (.t 53))),(29,gF 55 48 (.bin .eql (.t 54) (.c s0))),(30,pT 56 48 55),(31,mV 57 56),(32,gF 58 57 (.fad 1 (.t 1))),(33,gF 59 57 (.ld 1 false (.t 58))),(34,gF 60 57 (.mv (.t 4))),(35,gF 61 57 (.iad 2 (.t 59) (.t 60))),(36,gF 62 57 (.fad 1 (.t 61))),(37,gF 63 57 (.ld 1 false (.t 62))),(38,gF 64 57 (.call 161 [.t 63])),(39,gF 65 57 (.un .not (.t 64))),(40,pT 66 57 65)]) (cD 66 (sR [oP 2 (.mv cF)] .ret) .skip))) (.reg [mV 24 4,oP 25 (.bin .add (.t 24) (cI 1)),mV 4 25])))))) (sR [oP 2 (.mv cT)] .ret))))
theorem dg229:Dg Tryz.prog 229 Tryz.f229 j1b [(.t 2)]:=⟨Tryz.func229,by kernel_rfl,by kernel_rfl⟩
theorem c229 (s:Strm) (h:SB s):FnR Tryz.prog G 229 [.agg [.str s.inn,.sl 2 (s.parts.map Part.row)]] (.bool (strmOk s)):=by
 refine mF dg229 Tryz.ntmps229 ?_
 obtain⟨h1,h2,h3⟩:=h
 simp only[j1b,go_sem]
 have hp:=q2d s.inn
 have hpe:txOk s.inn=true→q1g s.inn=pieces s.inn:=λh=>by simp[q1g,h]
 refine q0r (c198 s.inn) rfl rfl ?_
 simp only[go_sem]
 refine q0r (qq5 s.inn) rfl rfl ?_
 simp only[go_sem]
 cases ht:txOk s.inn<;>simp only[go_sem]
 ·simp[strmOk,ht]
 have hpe:=hpe ht
 rw[hpe] at hp ⊢
 generalize hq:pieces s.inn=q at *
 have hso:strmOk s=q0x s.parts q:=by simp[strmOk,ht,hq]
 with_reducible repeat' (first|refine br ?_ ?_<;>intro h e<;>(try simp only[e,go_sem])<;>clear e|rw[q01 (by omega)]|refine sd ?_<;>try simp only[go_sem]|fail)
 ·have hlen:s.parts.length=q.length:=by omega
  refine q0v (λi:Nat=>⟨q0i [(1,.pv 1001 0),(3,.sl 4 (q.map Pc.row)),(4,.int .i64 (i:Int))],q0c [(1001,.var 167 [.str s.inn,.sl 2 (s.parts.map Part.row)])]⟩) (λi=>q.length - i) (λi=>i≤q.length∧q0x s.parts q=q0x (s.parts.drop i) (q.drop i)) 0 (leQ []) ⟨Nat.zero_le _,by simp⟩ ?_
  intro i ⟨hi,ha⟩
  simp only[go_sem]
  by_cases hil:(i:Int)<q.length
  ·have hst:=qda (show i<s.parts.length by omega) hlen
   have htx:(s.parts.getD i default).text.length≤2000000:=by
    have:s.parts.getD i default=s.parts[i]'(by omega):=by simp[List.getD,show i<s.parts.length by omega]
    rw[this];exact h3 _ (List.getElem_mem _)
   simp only[eq_true hil,go_sem]
   with_reducible repeat' (first|rw[q01 (by omega)];try simp only[go_sem]|refine br ?_ ?_<;>intro h e<;>(try simp only[e,go_sem])<;>clear e|refine sd ?_<;>try simp only[go_sem]|(first|refine cr (qq5 ..) ?_)<;>try simp only[go_sem]|fail)
   ·rw[hso,ha,hst]
    cases hok:q63 (s.parts.getD i default) (q.getD i default) with
    | false=>rfl
    | true=>have:=(q2n.1 hok).1;rw[this] at h;simp at h
   ·rw[hso,ha,hst]
    cases hok:q63 (s.parts.getD i default) (q.getD i default) with
    | false=>rfl
    | true=>have:=(q2n.1 hok).2.1;omega
   ·rw[hso,ha,hst]
    cases hok:q63 (s.parts.getD i default) (q.getD i default) with
    | false=>rfl
    | true=>have:=(q2n.1 hok).2.1;rw[h] at this;simp at this
   ·refine⟨i+1,by omega,⟨by omega, ?_⟩,(leQ [])⟩
    rename_i g1 g2 g3
    have hok:q63 (s.parts.getD i default) (q.getD i default)=true:=q2n.2 ⟨by simpa using g1,⟨List.length_pos_iff.2 g3,by omega⟩,h⟩
    rw[ha,hst,hok,Bool.true_and]
   ·rw[hso,ha,hst]
    cases hok:q63 (s.parts.getD i default) (q.getD i default) with
    | false=>rfl
    | true=>have:=(q2n.1 hok).2.2;rw[this] at h;cases h
  ·simp only[eq_false hil,go_sem]
   have:i=q.length:=by omega
   subst this
   rw[hso,ha,List.drop_length,←hlen,List.drop_length];rfl
 ·rw[hso,qgs (by omega)]
def rdH (code:B) (p:Int):Hs:=.var 133 [.sl 1 (code.map byR),.int .i64 p]
def rdQ (code:B) (p c:Int) (Q:V→Prop) (r:V) (o:List Hs):Prop:=∃p':Int,p≤p'∧p'≤p+c∧o=[rdH code p']∧Q r
theorem qzh {a b:Int} (ha:0≤a∧a<1099511627776) (hb:0≤b∧b<1099511627776):0≤bits .xor .i64 a b:=by
 obtain⟨x,rfl⟩:=Int.eq_ofNat_of_zero_le ha.1
 obtain⟨y,rfl⟩:=Int.eq_ofNat_of_zero_le hb.1
 have hx:x<2^40:=by omega
 have hy:y<2^40:=by omega
 have hz:=Nat.xor_lt_two_pow hx hy
 unfold bits
 simp only[BitVec.toNat_xor,BitVec.toNat_ofInt]
 have e1:((x:Int) % (2^IntKind.i64.bits:Nat)).toNat=x:=by
  rw[show(2^IntKind.i64.bits:Nat)=18446744073709551616 from rfl];omega
 have e2:((y:Int) % (2^IntKind.i64.bits:Nat)).toNat=y:=by
  rw[show(2^IntKind.i64.bits:Nat)=18446744073709551616 from rfl];omega
 rw[e1,e2,q01 (by omega)]
 omega
def ic41:IC:=sR [oP 4 (.mv (.c i0))] (sR [mV 7 0,mV 8 0,oP 9 (.nilc (.t 8)),fD 10 1 9,lD 11 1 10,oP 12 (.bin .add (.t 11) (cI 1)),oP 13 (.nilc (.t 7)),fD 14 1 13,nP (.sto 1 (.t 14) (.t 12))] (.seq (sR [mV 15 1,oP 16 (.bin .lss (.t 15) (cI 1)),mV 17 16,gF 18 17 (.mv (.t 0)),gF 19 17 (.nilc (.t 18)),gF 20 17 (.fad 0 (.t 19)),gF 21 17 (.ld 1 false (.t 20)),gF 22 17 (.len (.t 21)),gF 23 17 (.bin .eql (.t 22) (.c i0)),pT 24 17 23] (cD 24 (sR [oP 4 (.mv (.c i0))] .ret) .skip)) (sR [mV 25 0,oP 26 (.nilc (.t 25)),fD 27 1 26,lD 28 1 27,oP 29 (.bin .sub (.t 28) (cI 1)),mV 5 29] (.seq (sR [mV 30 5,mV 31 0,oP 32 (.nilc (.t 31)),fD 33 0 32,lD 34 1 33,oP 35 (.len (.t 34)),bN 36 .lss 30 35] (cD 36 (sR [mV 37 0,oP 38 (.nilc (.t 37)),fD 39 0 38,lD 40 1 39,mV 41 5,oP 42 (.iad 1 (.t 40) (.t 41)),lD 43 1 42,oP 44 (.cvi .i64 (.t 43)),mV 45 1,bN 46 .rem 44 45,mV 4 46] .ret) .skip)) (.seq (.drw [0,1,3,7,0,0,32,96,224,480,1008,2047,4095,8191,16383,0,32768,98304,229376,0,524288,1572864,0,4194304,12582912,29360128,62914560,133693440,268402688,536838144,1073709056,2147450880,4294967295,0,8589934592,34359738367,0,0,137438953472,412316860416,962072674304,2061584302080,4329327034368,8727373545472,17592186044415,35184372088831] [(0,mV 47 0),(1,oP 48 (.nilc (.t 47))),(2,fD 49 0 48),(3,lD 50 1 49),(4,mV 51 5),(5,mV 52 0),(6,oP 53 (.nilc (.t 52))),(7,fD 54 0 53),(8,lD 55 1 54),(9,oP 56 (.len (.t 55))),(10,bN 57 .rem 51 56),(11,oP 58 (.iad 1 (.t 50) (.t 57))),(12,lD 59 1 58),(13,oP 60 (.cvi .i64 (.t 59))),(14,oP 61 (.bin .mul (.t 60) (cI 131))),(15,mV 62 0),(16,oP 63 (.nilc (.t 62))),(17,fD 64 0 63),(18,lD 65 1 64),(19,mV 66 5),(20,oP 67 (.bin .mul (.t 66) (cI 7))),(21,oP 68 (.bin .add (.t 67) (cI 3))),(22,mV 69 0),(23,oP 70 (.nilc (.t 69))),(24,fD 71 0 70),(25,lD 72 1 71),(26,oP 73 (.len (.t 72))),(27,bN 74 .rem 68 73),(28,oP 75 (.iad 1 (.t 65) (.t 74))),(29,lD 76 1 75),(30,oP 77 (.cvi .i64 (.t 76))),(31,oP 78 (.bin .mul (.t 77) (cI 1117))),(32,bN 79 .add 61 78),(33,mV 80 5),(34,oP 81 (.bin .mul (.t 80) (cI 29))),(35,bN 82 .add 79 81),(36,mV 83 5),(37,mV 84 0),(38,oP 85 (.nilc (.t 84))),(39,fD 86 0 85),(40,lD 87 1 86),(41,oP 88 (.len (.t 87))),(42,bN 89 .quo 83 88),(43,oP 90 (.bin .mul (.t 89) (cI 53))),(44,bN 91 .add 82 90),(45,mV 6 91)]) (sR [mV 92 6,mV 93 6,oP 94 (.bin .quo (.t 93) (cI 64)),bN 95 .xor 92 94,mV 6 95] (sR [mV 96 6,mV 97 1,bN 98 .rem 96 97,mV 4 98] .ret)))))))
theorem dg41:Dg Tryz.prog 41 Tryz.f41 ic41 [(.t 4)]:=⟨Tryz.func41,by kernel_rfl,by kernel_rfl⟩
theorem c41 (code:B) (p n:Int) (hc:code.length≤2000) (hp:0≤p∧p≤1000000000) (hn:n≤1000000):FnP Tryz.prog G 41 1 [rdH code p] [.pv 0 0,.int .i64 n]
 (λr o=>∃k:Int,0≤k∧(1≤n→k<n)∧r=.int .i64 k∧o=[rdH code (p+1)]):=by
 refine mP dg41 Tryz.ntmps41 ⟨_,_,0,by omega,by omega,rfl,rfl⟩ ?_
 simp only[ic41,go_sem,rdH]
 have t1:∀a:Int,0≤a→0≤a.tmod code.length:=λa h=>Int.tmod_nonneg _ h
 have t2:∀a:Int,0≤a→0<(code.length:Int)→a.tmod code.length<code.length:=λa _ h=>Int.tmod_lt_of_pos _ h
 have hpp:p+1 - 1=p:=by omega
 have t3:(code.length:Int)≠0→0≤p.tdiv code.length∧p.tdiv code.length≤p:=λh=>⟨Int.tdiv_nonneg hp.1 (by omega),Int.tdiv_le_self _ hp.1⟩
 have b8:∀b:UInt8,IntKind.i64.wrap (b.toNat:Int)=b.toNat:=λb=>q01 (by have:=b.toNat_lt;omega)
 have b1:=(code.getD (p.tmod code.length).toNat default).toNat_lt
 have b2:=(code.getD ((p*7+3).tmod code.length).toNat default).toNat_lt
 have b3:=(code.getD p.toNat default).toNat_lt
 have t4:=t1 p hp.1
 have t5:=t2 p hp.1
 have t6:=t1 (p*7+3) (by omega)
 have t7:=t2 (p*7+3) (by omega)
 clear t1 t2
 with_reducible repeat' (first|rw[q01 (by omega)];try simp only[go_sem,hpp,byR,b8]|refine br ?_ ?_<;>intro h e<;>(try simp only[e,go_sem,hpp,byR,b8])<;>clear e|refine sd ?_<;>try simp only[go_sem,hpp,byR,b8]|fail)
 ·exact q1m (.int .i64 0) [rdH code (p+1)] [] (by simp only[go_sem]) ⟨0,by omega,by omega,rfl,rfl⟩ (by simp only[go_sem,rdH]) (by simp[q1c,q0o,rdH]) (by simp only[go_sem,rdH])
 ·exact q1m (.int .i64 0) [rdH code (p+1)] [] (by simp only[go_sem]) ⟨0,by omega,by omega,rfl,rfl⟩ (by simp only[go_sem,rdH]) (by simp[q1c,q0o,rdH]) (by simp only[go_sem,rdH])
 ·exact q1m (.int .i64 (((code.getD p.toNat default).toNat:Int).tmod n)) [rdH code (p+1)] [] (by simp only[go_sem]) ⟨_,Int.tmod_nonneg _ (Int.natCast_nonneg _),λh=>Int.tmod_lt_of_pos _ (by omega),rfl,rfl⟩ (by simp only[go_sem,rdH]) (by simp[q1c,q0o,rdH]) (by simp only[go_sem,rdH])
 have hl:(code.length:Int)≠0:=by assumption
 have t3:=t3 hl
 have t5:=t5 (by omega)
 have t7:=t7 (by omega)
 generalize hT:p.tdiv code.length=T at *
 have w1:IntKind.i64.wrap (p*7)=p*7:=q01 (by omega)
 have w2:IntKind.i64.wrap (p*7+3)=p*7+3:=q01 (by omega)
 have w3:∀b:UInt8,IntKind.i64.wrap ((b.toNat:Int)*131)=b.toNat*131:=λb=>q01 (by have:=b.toNat_lt;omega)
 have w4:∀b:UInt8,IntKind.i64.wrap ((b.toNat:Int)*1117)=b.toNat*1117:=λb=>q01 (by have:=b.toNat_lt;omega)
 have w5:∀a b:UInt8,IntKind.i64.wrap ((a.toNat:Int)*131+b.toNat*1117)=a.toNat*131+b.toNat*1117:=λa b=>q01 (by have:=a.toNat_lt;have:=b.toNat_lt;omega)
 have w6:IntKind.i64.wrap (p*29)=p*29:=q01 (by omega)
 have w7:∀a b:UInt8,IntKind.i64.wrap ((a.toNat:Int)*131+b.toNat*1117+p*29)=a.toNat*131+b.toNat*1117+p*29:=λa b=>q01 (by have:=a.toNat_lt;have:=b.toNat_lt;omega)
 have w8:IntKind.i64.wrap T=T:=q01 (by omega)
 have w9:IntKind.i64.wrap (T*53)=T*53:=q01 (by omega)
 have w10:∀a b:UInt8,IntKind.i64.wrap ((a.toNat:Int)*131+b.toNat*1117+p*29+T*53)=a.toNat*131+b.toNat*1117+p*29+T*53:=λa b=>q01 (by have:=a.toNat_lt;have:=b.toNat_lt;omega)
 simp only[w1,w2,w3]
 refine effG (by omega) ?_
 simp only[go_sem,byR]
 with_reducible repeat' (first|refine br ?_ ?_<;>intro h e<;>(try simp only[e,go_sem,b8,byR,hT,w1,w2,w3,w4,w5,w6,w7,w8,w9,w10])<;>clear e|rw[q01 (by omega)]|refine sd ?_<;>try simp only[go_sem,b8,byR,hT,w1,w2,w3,w4,w5,w6,w7,w8,w9,w10]|fail)
 generalize hX:(((code.getD (p.tmod code.length).toNat default).toNat:Int)*131+(code.getD ((p*7+3).tmod code.length).toNat default).toNat*1117+p*29+T*53)=X
 have hX2:0≤X∧X<1099511627776:=by omega
 have hd1:0≤X.tdiv 64:=Int.tdiv_nonneg hX2.1 (by omega)
 have hd2:X.tdiv 64≤X:=Int.tdiv_le_self _ hX2.1
 have w11:IntKind.i64.wrap (X.tdiv 64)=X.tdiv 64:=q01 (by omega)
 rw[w11]
 have hb:=qzh hX2 (show 0≤X.tdiv 64∧X.tdiv 64<1099511627776 by omega)
 exact q1m (.int .i64 ((bits .xor .i64 X (X.tdiv 64)).tmod n)) [rdH code (p+1)] [] (by simp only[go_sem]) ⟨_,Int.tmod_nonneg _ hb,λh=>Int.tmod_lt_of_pos _ (by omega),rfl,rfl⟩ (by simp only[go_sem,rdH]) (by simp[q1c,q0o,rdH]) (by simp only[go_sem,rdH])
theorem pkN (code:B) (P N:Int) (dd:Nat) (hc:code.length≤2000) {vs:List V} {d:Option Nat} {st:St} {K:St→List Nat→List Nat→Prop}
 (hk:∀k:Int,0≤k→(1≤N→k<N)→K (st.app d ((V.int .i64 k).rn (bk [0] 1 dd)) (qan (bk [0] 1 dd) 0 [rdH code (P+1)]++q4y ([0].drop 1++bif true then [] else []))) (q1x [0] [] dd 1) (q1x [0] (bif true then [] else []) dd 1))
 (hp:0≤P∧P≤1000000000:=by omega) (hn:N≤1000000:=by omega)
 (hw:WkL (Wk (λc=>c∈[]) (nsF [0]) st.h (chH [rdH code P])) vs [.pv 0 0,.int .i64 N]:=by simp only[go_sem,rdH];first|done|simp)
 (hs:NsL (λn s=>s.live=true∧WkH (λc=>c∈[]) (nsF [0]) st.h (chH [rdH code P]) (st.h n) s) [0] [rdH code P]:=by simp only[go_sem,rdH];first|done|simp)
 (hf:∀i,i<1→st.h (qgq dd i)=.fresh:=by intro i hi;obtain rfl:i=0:=(by omega);simp only[go_sem]):CallV Tryz.prog G 41 vs d st K:=by
 refine q0m (c41 code P N hc hp hn) [0] [] true dd 1 hw hs (by simp) (by simp) (by simp) ?_ hf ?_
 ·rintro _ _ ⟨k,_,_,rfl,rfl⟩;exact⟨by simp,by simp,.inl rfl,λi hi=>by obtain rfl:i=0:=(by omega);simp[chH,q09,rdH]⟩
 ·rintro _ _ ⟨k,k1,k2,rfl,rfl⟩
  exact hk k k1 k2
end Go.Proofs.YtpnekhiejecipaaGreatDoor.W
namespace Go.Proofs.YtpnekhiejecipaaGreatDoor.W
open Go Go.RowKit Go.Proofs Go.Proofs.YtpnekhiejecipaaGreatDoor.VL Go.Proofs.YtpnekhiejecipaaGreatDoor.M Go.ChangeShapes Go.WideShapes
theorem qlb:laidOutB Tryz.prog=true:=by kernel_rfl
theorem mapF:mapsRowed Tryz.prog=true:=by kernel_rfl
theorem mayF:Tryz.prog.mayEnter=true:=by kernel_rfl
theorem stoF:Tryz.prog.stopsHeard=true:=by kernel_rfl
theorem lifF:(Rows.fnExactWorldPlayRow.lifted==Tryz.prog.liftsFinal)=true:=by kernel_rfl
theorem pkeF:(Rows.fnExactWorldPlayRow.plainKeys==Tryz.prog.plainKeys)=true:=by kernel_rfl
theorem makF:(Tryz.prog.make==some Rows.fnExactWorldPlayRow.make)=true:=by kernel_rfl
theorem own:ownKnob Tryz.prog.godebug=none:=by kernel_rfl
def noO:Nat→Prop:=λ_=>False
def noH:Nat→Hs:=λ_=>.fresh
def noρ:Nat→VL.Loc:=λ_=>default
theorem noB (W:World):owns ⟨W,blocks noρ (chH []),λ_=>False,0,noρ⟩ noρ (chH [])=noO:=by
 funext b
 apply propext
 constructor
 ·rintro(h|⟨c,h,_⟩)
  ·exact h
  ·simp[chH,Hs.live] at h
 ·intro h;exact h.elim
theorem FnR.calls {P:Program} {G:Glob} {f:FuncId} {vs:List V} {b:Bool} (F:FnR P G f vs (.bool b)) {W:World} {us:List Value} (hg:G.g W) (ha:DenArgs W noO noρ noH vs us) :
 Calls P f us.toArray W λe W'=>e=.returned (.bool b)∧Below W.heap.size W W':=by
 have hc:chH []=noH:=by funext x;simp[chH,noH]
 have nl:∀c,(noH c).live=true→False:=λc h=>by cases h
 have hb:∀b,¬blocks noρ (chH []) b:=λb ⟨c,h,_⟩=>by rw[hc] at h;exact nl c h
 refine(F.run W noρ (λ_=>False) us hg (λb h=>h.elim) (λb h=>h.elim) (λb h=>(hb b h).elim) ⟨rfl,rfl,rfl,Nat.le_refl _,λ_ _ _=>rfl,λc=>(by rw[hc];trivial),λc h=>(by rw[hc] at h;exact(nl c h).elim),λc c' h=>(by rw[hc] at h;exact(nl c h).elim),λi hi=>absurd hi (Nat.not_lt_zero _)⟩ (by rw[noB,hc];exact ha)).mono λe W' hp=>?_
 obtain⟨u,res,out,ρ',rfl,⟨rfl,rfl⟩,r,hd⟩:=hp
 refine⟨by rw[q6s hd],r.os,r.tape,r.output,r.grow,λk hk=>r.keep k hk (hb k)⟩
theorem gES:Tryz.prog.globalNamed "strconv.ErrSyntax"=some 2:=by kernel_rfl
theorem gER:Tryz.prog.globalNamed "strconv.ErrRange"=some 3:=by kernel_rfl
theorem gESt:(Tryz.prog.globals[2]?).map (·.type)=some 93:=by kernel_rfl
theorem gERt:(Tryz.prog.globals[3]?).map (·.type)=some 93:=by kernel_rfl
theorem qvc (u:TypeId) (h:Tryz.prog.typeName? 3 u=some "*errors.errorString"):u=288 :=
 typeName_ptr_named (nm:= "errors.errorString") (by kernel_rfl) (by kernel_rfl) (by decide) u h
theorem gOk1 {l:List (String×DataW Unit)} {W:World} (hl:l=Rows.fnLinesTwoRow.laid) (hL:laidMetH Tryz.prog l W) (hs:W.ShapedOpen Tryz.prog):G.g W:=by
 subst hl
 rw[MakeChecks.laidMetH_plain _ _ _ (by kernel_rfl)] at hL
 obtain⟨a0,s0,hv0,-,-,-⟩:=laid_sentinel hL.tail.tail.tail.tail gER gERt Tryz.underlying93 qvc Tryz.underlying288 Tryz.underlying290 rfl rfl Tryz.underlying9 (by kernel_rfl) (by kernel_rfl)
 obtain⟨a1,s1,hv1,-,-,-⟩:=laid_sentinel hL.tail.tail.tail.tail.tail gES gESt Tryz.underlying93 qvc Tryz.underlying288 Tryz.underlying290 rfl rfl Tryz.underlying9 (by kernel_rfl) (by kernel_rfl)
 refine⟨cell_of_shapedOpen_int (t:=3) (zero:=#[.int .i64 0]) hs (of_decide_eq_true (by kernel_rfl)) (by kernel_rfl) rfl (by kernel_rfl) (by kernel_rfl) Tryz.underlying3, ?_, ?_⟩
 ·exact⟨_,by have h0:=World.var?_cell gES hv1 0;simpa using h0,.inr ⟨_,_,rfl⟩⟩
 ·exact⟨_,by have h0:=World.var?_cell gER hv0 0;simpa using h0,.inr ⟨_,_,rfl⟩⟩
theorem qah {H:Type} {enc:TypeId×Value→H} {C:Checked} {os:Os} {f:FuncId} {fn:Func} {s:OpenSpec} {conds:List PathCond} {apart:Bool} {laid:List (String×DataW Unit)} (w0:World) (args:Array Value) (hos:w0.os=os)
 (hsh:(w0.forCall (λ_ _=>0) ⟨#[],args,[]⟩).Shaped C.prog) (hok:Input.okWideB C.prog (w0.forCall (λ_ _=>0) ⟨#[],args,[]⟩) f ⟨#[],args,[]⟩=true)
 (hrow:s.preRow enc C.prog fn conds apart laid (w0.forCall (λ_ _=>0) ⟨#[],args,[]⟩).memory args) :
 ∃(w:World) (tape:Tape) (i:Input),w.os=os∧(w.forCall tape i).Shaped C.prog∧i.vars=[]∧Input.okWide C.prog (w.forCall tape i) .any w.heap.size f i ∧
  s.preRow enc C.prog fn conds apart laid (w.forCall tape i).memory i.args∧({ modest:=false }:Assume).holds C.prog (lone (Frame.enter C.prog f i.args .normal) [] (w.forCall tape i)) :=
 ⟨w0,λ_ _=>0,⟨#[],args,[]⟩,hos,hsh,(Input.okWide_of_okWideB (base:=0) hok).1,(Input.okWide_of_okWideB hok).2,hrow,by
   simp only[Assume.holds]
   exact⟨by simp,by simp,by simp,by simp,by simp⟩⟩
theorem ql5 {H:Type} {enc:TypeId×Value→H} {W:World} {v:Value} {d:DataW H} {ps:List MemPlace} (h:DataW.Trod enc Tryz.prog W 0 (λ_=>true) true 46 v d ps) (hv:∃a l c,v=.slice a l c) :
 ∃code:B,Den W noO noρ noH (.sl 1 (code.map byR)) v:=by
 obtain⟨a0,len0,cap0,rfl⟩:=hv
 obtain⟨fuel,hf⟩:=h
 rcases open_ints Tryz.underlying46 Tryz.underlying5 (by kernel_rfl) hf with⟨hcs,_⟩|⟨x,l,c,zs,hcs,_,hl,hm,hz,_,hcell,hwz⟩
 ·simp[Value.cells] at hcs
  obtain⟨rfl,rfl,rfl⟩:=hcs
  exact⟨[],Imm.esl 1 none 0⟩
 ·simp[Value.cells] at hcs
  obtain⟨rfl,rfl,rfl⟩:=hcs
  simp only[if_true] at hz
  refine⟨(zs.take len0).map λz=>UInt8.ofNat z.toNat, ?_⟩
  have hb:∀(i:Nat),i<len0→∃z,zs[i]?=some z∧0≤z∧z≤255∧W.cell? (x.add i)=some (.int .u8 z):=λi hi=>by
   have hiz:i<zs.length:=by omega
   have:=bounds_u8 (hwz _ (List.getElem_mem hiz))
   refine⟨zs[i],zE hiz,this.1,this.2, ?_⟩
   rw[hcell i hiz]
   simp[List.getD,hiz]
  have hlen:((zs.take len0).map λz=>UInt8.ofNat z.toNat).length=len0:=by simp;omega
  cases len0 with
  | zero=>exact Imm.esl 1 _ _
  | succ n =>
    obtain⟨b,o,sp⟩:=x
    have hsp:sp=none:=by
     obtain⟨z,_,_,_,h3⟩:=hb 0 (by omega)
     simp only[Addr.add,if_true] at h3
     unfold World.cell? at h3
     split at h3
     ·split at h3
      ·cases h3
      ·rename_i hs;cases sp with
       | none=>rfl
       | some k=>simp at hs
     ·cases h3
    subst hsp
    have hlt:b<W.heap.size:=by
     obtain⟨z,_,_,_,h3⟩:=hb 0 (by omega)
     simp only[Addr.add,if_true] at h3
     unfold World.cell? at h3
     split at h3
     ·rename_i hh;exact(Array.getElem?_eq_some_iff.1 hh).1
     ·cases h3
    have key:=Imm.sl (w:=W) (O:=noO) 1 (((zs.take (n+1)).map λz=>UInt8.ofNat z.toNat).map byR) b o cap0 (λi _=>.int .u8 (zs.getD i 0)) (λh=>h) hlt (by simp;omega) (λr hr=>by
     obtain⟨y,_,rfl⟩:=List.mem_map.1 hr;rfl) (by simp;omega) ?_ ?_
    ·have e:(((zs.take (n+1)).map λz=>UInt8.ofNat z.toNat).map byR).length=n+1:=by simp;omega
     rw[e] at key
     exact key
    ·intro i r j v hr hv
     have hi:i<n+1:=by have:=(List.getElem?_eq_some_iff.1 hr).1;simp at this;omega
     obtain⟨z,h1,_,_,h3⟩:=hb i hi
     simp only[List.getElem?_map,List.getElem?_take,if_pos hi,h1,Option.map_some,zS] at hr
     subst hr
     have hj:j=0:=by
      cases j with
      | zero=>rfl
      | succ j=>simp[byR] at hv
     subst hj
     have ha:(⟨b,o+(i*1+0),none⟩:Addr)=(⟨b,o,none⟩:Addr).add i:=by
      unfold Addr.add
      split
      ·rename_i h0;subst h0;rfl
      ·simp
     rw[ha,h3]
     simp[List.getD,h1]
    ·intro i r j v hr hv
     have hi:i<n+1:=by have:=(List.getElem?_eq_some_iff.1 hr).1;simp at this;omega
     obtain⟨z,h1,h2,h2',_⟩:=hb i hi
     simp only[List.getElem?_map,List.getElem?_take,if_pos hi,h1,Option.map_some,zS] at hr
     subst hr
     cases j with
     | succ j=>simp[byR] at hv
     | zero =>
       simp only[byR,List.getElem?_cons_zero,zS] at hv
       subst hv
       have:((UInt8.ofNat z.toNat).toNat:Int)=zs.getD i 0:=by
        simp only[List.getD,h1,Option.getD_some]
        rw[UInt8.toNat_ofNat']
        omega
       rw[this]
       exact Imm.int _ _
end Go.Proofs.YtpnekhiejecipaaGreatDoor.W
namespace Go.Proofs.YtpnekhiejecipaaGreatDoor.W
open Go Go.RowKit Go.Proofs Go.Proofs.YtpnekhiejecipaaGreatDoor.VL Go.Proofs.YtpnekhiejecipaaGreatDoor.M
def ic73:IC:=sR [oP 1 (.box 65 (.t 0)),oP 2 (.mv cF)] (.seq (sR [fD 3 1 1,lA 4 2 3,oP 5 (.call 133 [.t 4]),oP 6 (.un .not (.t 5)),mV 7 6,gF 8 7 (.fad 3 (.t 1)),gF 9 7 (.ld 2 true (.t 8)),gF 10 7 (.call 133 [.t 9]),gF 11 7 (.un .not (.t 10)),pT 12 7 11,mV 13 12,gF 14 13 (.fad 5 (.t 1)),gF 15 13 (.ld 1 false (.t 14)),gF 16 13 (.call 65 [.t 15,.c i0,cI 99]),gF 17 13 (.un .not (.t 16)),pT 18 13 17] (cD 18 (sR [oP 2 (.mv cF)] .ret) .skip)) (sR [fD 19 0 1,lD 20 1 19,oP 21 (.bin .eql (.t 20) (cI 1)),mV 22 21,gT 23 22 (.fad 6 (.t 1)),gT 24 22 (.ld 1 false (.t 23)),gT 25 22 (.call 134 [.t 24]),pF 26 22 25,mV 27 26,gT 28 27 (.fad 6 (.t 1)),gT 29 27 (.ld 1 false (.t 28)),gT 30 27 (.bin .neq (.t 29) (.c s0)),pF 31 27 30,mV 32 31,gF 33 32 (.fad 0 (.t 1)),gF 34 32 (.ld 1 false (.t 33)),gF 35 32 (.bin .eql (.t 34) (cI 2)),gF 36 32 (.mv (.t 35)),gT 37 36 (.fad 6 (.t 1)),gT 38 36 (.ld 1 false (.t 37)),gT 39 36 (.bin .eql (.t 38) (.c s0)),gF 40 32 (.pick (.t 36) (.t 39) cF),pT 41 32 40,mV 2 41] .ret))
theorem dg73:Dg Tryz.prog 73 Tryz.f73 ic73 [(.t 2)]:=⟨Tryz.func73,by kernel_rfl,by kernel_rfl⟩
theorem isE (s:B):List.isEmpty s=decide (s=[]):=by cases s<;>simp
theorem c73 (p:Pk) (h:p.text.length≤2000000):FnR Tryz.prog G 73 [.agg [.int .i64 p.kind,.int .i64 p.frm.a,.int .i64 p.frm.p,.int .i64 p.to.a,.int .i64 p.to.p,.int .i64 p.at_,.str p.text]] (.bool (q48 p)):=by
 refine mF dg73 Tryz.ntmps73 ?_
 simp only[ic73,go_sem]
 with_reducible repeat' (first|refine br ?_ ?_<;>intro h e<;>(try simp only[e,go_sem])<;>clear e|rw[q01 (by omega)]|refine sd ?_<;>try simp only[go_sem]|(first|refine cr (c133 ..) ?_|refine cr (c65 ..) ?_|refine cr (qvi ..) ?_)<;>try simp only[go_sem]|fail)
 all_goals simp_all[q48,isE]
def qz6:IC:=sR [oP 1 (.box 65 (.t 0)),oP 2 (.mv cF)] (.seq (sR [fD 3 1 1,lA 4 2 3,oP 5 (.call 142 [.t 4]),oP 6 (.un .not (.t 5)),mV 7 6,gF 8 7 (.fad 3 (.t 1)),gF 9 7 (.ld 2 true (.t 8)),gF 10 7 (.call 142 [.t 9]),gF 11 7 (.un .not (.t 10)),pT 12 7 11,mV 13 12,gF 14 13 (.fad 5 (.t 1)),gF 15 13 (.ld 1 false (.t 14)),gF 16 13 (.call 114 [.t 15,.c i0,cI 99]),gF 17 13 (.un .not (.t 16)),pT 18 13 17] (cD 18 (sR [oP 2 (.mv cF)] .ret) .skip)) (.seq (sR [fD 19 0 1,lD 20 1 19] (.block 0 (sR [oP 22 (.bin .eql (.t 20) (cI 1)),mV 21 22] (cD 21 (sR [fD 23 6 1,lD 24 1 23,oP 25 (.call 161 [.t 24]),mV 26 25,gT 27 26 (.fad 6 (.t 1)),gT 28 26 (.ld 1 false (.t 27)),gT 29 26 (.bin .neq (.t 28) (.c s0)),pF 30 26 29,mV 2 30] .ret) (sR [oP 32 (.bin .eql (.t 20) (cI 2)),mV 31 32] (cD 31 (sR [fD 33 6 1,lD 34 1 33,oP 35 (.bin .eql (.t 34) (.c s0)),mV 2 35] .ret) .skip)))))) (sR [oP 2 (.mv cF)] .ret)))
theorem dg118:Dg Tryz.prog 118 Tryz.f118 qz6 [(.t 2)]:=⟨Tryz.func118,by kernel_rfl,by kernel_rfl⟩
theorem c118 (p:Pk) (h:p.text.length≤2000000):FnR Tryz.prog G 118 [.agg [.int .i64 p.kind,.int .i64 p.frm.a,.int .i64 p.frm.p,.int .i64 p.to.a,.int .i64 p.to.p,.int .i64 p.at_,.str p.text]] (.bool (q48 p)):=by
 refine mF dg118 Tryz.ntmps118 ?_
 simp only[qz6,go_sem]
 with_reducible repeat' (first|refine br ?_ ?_<;>intro h e<;>(try simp only[e,go_sem])<;>clear e|rw[q01 (by omega)]|refine sd ?_<;>try simp only[go_sem]|(first|refine cr (c142 ..) ?_|refine cr (qc3 ..) ?_|refine cr (qq5 ..) ?_)<;>try simp only[go_sem]|fail)
 all_goals simp_all[q48,isE]
def j2a:IC:=sR [oP 1 (.box 65 (.t 0)),oP 2 (.mv cF)] (sR [fD 3 1 1,lA 4 2 3,oP 5 (.call 120 [.t 4]),mV 6 5,gT 7 6 (.fad 3 (.t 1)),gT 8 6 (.ld 2 true (.t 7)),gT 9 6 (.call 121 [.t 8]),pF 10 6 9,mV 2 10] .ret)
theorem dg169:Dg Tryz.prog 169 Tryz.f169 j2a [(.t 2)]:=⟨Tryz.func169,by kernel_rfl,by kernel_rfl⟩
theorem c169 (p:Pk):FnR Tryz.prog G 169 [.agg [.int .i64 p.kind,.int .i64 p.frm.a,.int .i64 p.frm.p,.int .i64 p.to.a,.int .i64 p.to.p,.int .i64 p.at_,.str p.text]] (.bool p.outward):=by
 refine mF dg169 Tryz.ntmps169 ?_
 simp only[j2a,go_sem]
 with_reducible repeat' (first|refine br ?_ ?_<;>intro h e<;>(try simp only[e,go_sem])<;>clear e|rw[q01 (by omega)]|refine sd ?_<;>try simp only[go_sem]|(first|refine cr (qyd ..) ?_|refine cr (c121 ..) ?_)<;>try simp only[go_sem]|fail)
 all_goals simp_all[Pk.outward]
def ic74:IC:=sR [oP 1 (.box 65 (.t 0)),oP 2 (.mv cF)] (sR [fD 3 1 1,lA 4 2 3,oP 5 (.call 121 [.t 4]),mV 6 5,gT 7 6 (.fad 3 (.t 1)),gT 8 6 (.ld 2 true (.t 7)),gT 9 6 (.call 125 [.t 8]),pF 10 6 9,mV 2 10] .ret)
theorem dg74:Dg Tryz.prog 74 Tryz.f74 ic74 [(.t 2)]:=⟨Tryz.func74,by kernel_rfl,by kernel_rfl⟩
theorem c74 (p:Pk):FnR Tryz.prog G 74 [.agg [.int .i64 p.kind,.int .i64 p.frm.a,.int .i64 p.frm.p,.int .i64 p.to.a,.int .i64 p.to.p,.int .i64 p.at_,.str p.text]] (.bool p.inward):=by
 refine mF dg74 Tryz.ntmps74 ?_
 simp only[ic74,go_sem]
 with_reducible repeat' (first|refine br ?_ ?_<;>intro h e<;>(try simp only[e,go_sem])<;>clear e|rw[q01 (by omega)]|refine sd ?_<;>try simp only[go_sem]|(first|refine cr (c121 ..) ?_|refine cr (qlc ..) ?_)<;>try simp only[go_sem]|fail)
 all_goals simp_all[Pk.inward]
def qxu:IC:=sR [oP 4 (.box 63 (.t 1)),oP 5 (.box 63 (.t 2)),oP 6 (.mv (.c i0))] (.seq (sR [oP 7 (.mv (.c i0))] (.block 0 (.loop (.seq (sR [mV 8 7,mV 9 0,oP 10 (.len (.t 9)),bN 11 .lss 8 10] (cD 11 .skip (.exit 0))) (.seq (.block 1 (.seq (.drw [0,0,3,7,15,0,63,127,255,255,1023,2047,4095,255,16383,32767] [(0,mV 14 0),(1,mV 15 7),(2,oP 16 (.iad 8 (.t 14) (.t 15))),(3,fD 17 0 16),(4,lA 18 2 17),(5,lA 19 2 4),(6,oP 20 (.eqs false [.i,.i] (.t 18) (.t 19))),(7,mV 21 20),(8,gT 22 21 (.mv (.t 0))),(9,gT 23 21 (.mv (.t 7))),(10,gT 24 21 (.iad 8 (.t 22) (.t 23))),(11,gT 25 21 (.fad 2 (.t 24))),(12,gT 26 21 (.ld 2 true (.t 25))),(13,gT 27 21 (.ld 2 true (.t 5))),(14,gT 28 21 (.eqs false [.i,.i] (.t 26) (.t 27))),(15,pF 29 21 28)]) (cD 29 (sR [mV 30 7,mV 6 30] .ret) .skip))) (.reg [mV 12 7,oP 13 (.bin .add (.t 12) (cI 1)),mV 7 13])))))) (sR [oP 6 (.mv (.c (.int .i64 (-1))))] .ret))
theorem dg230:Dg Tryz.prog 230 Tryz.f230 qxu [(.t 6)]:=⟨Tryz.func230,by kernel_rfl,by kernel_rfl⟩
theorem c230 (fs:List Flw) (i o:E) (hl:fs.length≤2000000):FnR Tryz.prog G 230 [.sl 8 (fs.map Flw.row),.agg [.int .i64 i.a,.int .i64 i.p],.agg [.int .i64 o.a,.int .i64 o.p]] (.int .i64 (ixI (q0p fs i o))):=by
 refine mF dg230 Tryz.ntmps230 ?_
 simp only[qxu,go_sem]
 refine q0v (λk:Nat=>⟨q0i [(0,.sl 8 (fs.map Flw.row)),(4,.pv 1004 0),(5,.pv 1005 0),(7,.int .i64 (k:Int))],q0c [(1004,.var 63 [.int .i64 i.a,.int .i64 i.p]),(1005,.var 63 [.int .i64 o.a,.int .i64 o.p])]⟩) (λk=>fs.length - k)
  (λk=>k≤fs.length∧q0p fs i o=(q0p (fs.drop k) i o).map (·+k)) 0 (leQ []) ⟨Nat.zero_le _,by simp⟩ ?_
 intro k ⟨hk,ha⟩
 simp only[go_sem]
 by_cases h:(k:Int)<fs.length
 ·have hil:k<fs.length:=by omega
  have hg:fs.getD k default=fs[k]:=by simp[List.getD,hil]
  rw[List.drop_eq_getElem_cons hil,q4t] at ha
  simp only[eq_true h,go_sem]
  with_reducible repeat' (first|refine br ?_ ?_<;>intro h e<;>(try simp only[e,go_sem,hg,E.ext_iff'])<;>clear e|rw[q01 (by omega)]|refine sd ?_<;>try simp only[go_sem,hg,E.ext_iff']|fail)
  ·rw[if_pos ⟨by assumption,h⟩] at ha
   rw[ha];simp[ixI]
  ·rw[if_neg (λhc=>h hc.2)] at ha
   refine⟨k+1,by omega,⟨by omega,by rw[ha];cases q0p (fs.drop (k+1)) i o<;>simp;omega⟩,(leQ [])⟩
  ·rw[if_neg (λhc=>h hc.1)] at ha
   refine⟨k+1,by omega,⟨by omega,by rw[ha];cases q0p (fs.drop (k+1)) i o<;>simp;omega⟩,(leQ [])⟩
 ·simp only[eq_false h,go_sem]
  have:k=fs.length:=by omega
  subst this
  rw[ha,List.drop_length];rfl
def j1i:IC:=sR [oP 3 (.box 169 (.t 0)),oP 4 (.mv cF)] (sR [fD 5 0 3,lA 6 2 5,lA 7 2 1,oP 8 (.eqs false [.i,.i] (.t 6) (.t 7)),mV 9 8,gT 10 9 (.fad 2 (.t 3)),gT 11 9 (.ld 2 true (.t 10)),gT 12 9 (.ld 2 true (.t 2)),gT 13 9 (.eqs false [.i,.i] (.t 11) (.t 12)),pF 14 9 13,mV 4 14] .ret)
theorem dg245:Dg Tryz.prog 245 Tryz.f245 j1i [(.t 4)]:=⟨Tryz.func245,by kernel_rfl,by kernel_rfl⟩
theorem c245 (f:Flw) (i o:E):FnR Tryz.prog G 245 [.agg [.int .i64 f.ins.a,.int .i64 f.ins.p,.int .i64 f.out.a,.int .i64 f.out.p,.str f.up.inn,.sl 2 (f.up.parts.map Part.row),.str f.down.inn,.sl 2 (f.down.parts.map Part.row)],.iptr [.int .i64 i.a,.int .i64 i.p] 0,.iptr [.int .i64 o.a,.int .i64 o.p] 0] (.bool (decide (f.ins=i)&&decide (f.out=o))):=by
 refine mF dg245 Tryz.ntmps245 ?_
 simp only[j1i,go_sem,E.ext_iff']
 with_reducible repeat' (first|refine br ?_ ?_<;>intro h e<;>(try simp only[e,go_sem,E.ext_iff'])<;>clear e|rw[q01 (by omega)]|refine sd ?_<;>try simp only[go_sem,E.ext_iff']|fail)
 all_goals simp_all
def qvf:IC:=sR [oP 4 (.mv (.c i0))] (.seq (sR [mV 6 0,oP 7 (.len (.t 6)),oP 8 (.mv (.c i0))] (.block 0 (.loop (sR [bN 9 .lss 8 7] (.seq (cD 9 .skip (.exit 0)) (.seq (.block 1 (sR [mV 10 8,mV 5 10] (sR [mV 11 1,mV 12 0,mV 13 5,oP 14 (.iad 8 (.t 12) (.t 13)),lA 15 8 14,oP 16 (.cal (.t 11) [.t 15])] (cD 16 (sR [mV 17 5,mV 4 17] .ret) .skip)))) (.reg [oP 18 (.bin .add (.t 8) (cI 1)),mV 8 18]))))))) (sR [oP 4 (.mv (.c (.int .i64 (-1))))] .ret))
theorem dg244:Dg Tryz.prog 244 Tryz.f244 qvf [(.t 4)]:=⟨Tryz.func244,by kernel_rfl,by kernel_rfl⟩
theorem c244 (fs:List Flw) (i o:E) (hl:fs.length≤2000000):FnR Tryz.prog G 244 [.sl 8 (fs.map Flw.row),.fn 245 [.iptr [.int .i64 i.a,.int .i64 i.p] 0,.iptr [.int .i64 o.a,.int .i64 o.p] 0]] (.int .i64 (ixI (q0p fs i o))):=by
 refine mF dg244 Tryz.ntmps244 ?_
 simp only[qvf,go_sem]
 refine q0v (λk:Nat=>⟨q0i [(0,.sl 8 (fs.map Flw.row)),(1,.fn 245 [.iptr [.int .i64 i.a,.int .i64 i.p] 0,.iptr [.int .i64 o.a,.int .i64 o.p] 0]),(7,.int .i64 fs.length),(8,.int .i64 (k:Int))],q0c []⟩) (λk=>fs.length - k)
  (λk=>k≤fs.length∧q0p fs i o=(q0p (fs.drop k) i o).map (·+k)) 0 (leQ []) ⟨Nat.zero_le _,by simp⟩ ?_
 intro k ⟨hk,ha⟩
 simp only[go_sem]
 by_cases h:(k:Int)<fs.length
 ·have hil:k<fs.length:=by omega
  have hg:fs.getD k default=fs[k]:=by simp[List.getD,hil]
  rw[List.drop_eq_getElem_cons hil,q4t] at ha
  simp only[eq_true h,go_sem]
  with_reducible repeat' (first|refine br ?_ ?_<;>intro h e<;>(try simp only[e,go_sem,hg])<;>clear e|rw[q01 (by omega)]|refine sd ?_<;>try simp only[go_sem,hg]|fail)
  refine q0r (c245 fs[k] i o) rfl rfl ?_
  simp only[go_sem]
  by_cases hc:fs[k].ins=i∧fs[k].out=o
  ·rw[if_pos hc] at ha
   simp only[hc,go_sem]
   rw[ha];simp[ixI]
  ·rw[if_neg hc] at ha
   have:(decide (fs[k].ins=i)&&decide (fs[k].out=o))=false:=by
    rw[←Bool.decide_and];simpa using hc
   simp only[this,go_sem]
   with_reducible repeat' (first|refine br ?_ ?_<;>intro h e<;>(try simp only[e,go_sem])<;>clear e|rw[q01 (by omega)]|refine sd ?_<;>try simp only[go_sem]|fail)
   refine⟨k+1,by omega,⟨by omega,by rw[ha];cases q0p (fs.drop (k+1)) i o<;>simp;omega⟩,(leQ [])⟩
 ·simp only[eq_false h,go_sem]
  have:k=fs.length:=by omega
  subst this
  rw[ha,List.drop_length];rfl
theorem q6b (f a b:Nat):qpo f [.pv a b]=some (.fn f [.pv a b]):=qsw rfl
theorem qr4 (f a b c d:Nat):qpo f [.pv a b,.pv c d]=some (.fn f [.pv a b,.pv c d]):=qsw rfl
def qyu:IC:=sR [oP 3 (.box 30 (.t 0)),oP 4 (.box 63 (.t 1)),oP 5 (.box 63 (.t 2)),oP 6 (.mv (.c i0))] (sR [fD 7 1 3,lD 8 1 7,oP 9 (.mkf 245 [.t 4,.t 5]),oP 10 (.call 244 [.t 8,.t 9]),mV 6 10] .ret)
theorem dg204:Dg Tryz.prog 204 Tryz.f204 qyu [(.t 6)]:=⟨Tryz.func204,by kernel_rfl,by kernel_rfl⟩
theorem qva (rows:List (List V)) (fs:List Flw) (i o:E) (hl:fs.length≤2000000):FnR Tryz.prog G 204 [.agg [.sl 3 rows,.sl 8 (fs.map Flw.row)],.agg [.int .i64 i.a,.int .i64 i.p],.agg [.int .i64 o.a,.int .i64 o.p]] (.int .i64 (ixI (q0p fs i o))):=by
 refine mF dg204 Tryz.ntmps204 ?_
 simp only[qyu,go_sem,qr4]
 refine q2p (c244 fs i o hl) [1004,1005] true (by simp only[go_sem,List.mem_cons,true_or,or_true]) (by simp only[List.mem_cons,List.not_mem_nil,or_false];rintro c (rfl|rfl)<;>rfl) rfl (.inl rfl) ?_
 simp only[go_sem]
def strV (x:B):List V:=[.str x]
def qjx (c:UInt8) (l r:B):List B:=match q0a c r with
 | []=>[l]
 | h::t=>(l++h)::t
theorem qov (c:UInt8) (l:B):qjx c l []=[l]:=by simp[qjx,q0a]
theorem qp0 (c:UInt8) (l r:B):qjx c l (c::r)=l::qjx c [] r:=by
 cases h:q0a c r with
 | nil=>exact absurd h (q36 c r)
 | cons a b=>simp[qjx,q0a,h]
theorem qi6 {c x:UInt8} (hx:x≠c) (l r:B):qjx c l (x::r)=qjx c (l++[x]) r:=by
 cases h:q0a c r with
 | nil=>exact absurd h (q36 c r)
 | cons a b=>simp[qjx,q4z hx h,h]
theorem qni (c:UInt8) (t:B):qjx c [] t=q0a c t:=by
 cases h:q0a c t with
 | nil=>exact absurd h (q36 c t)
 | cons a b=>simp[qjx,h]
theorem q3i (c:UInt8):∀t:B,(q0a c t).length≤t.length+1
 | []=>by simp[q0a]
 | x::r=>by
   have:=q3i c r
   unfold q0a
   split
   ·simp;omega
   ·split<;>simp_all<;>omega
theorem q3h (c:UInt8):∀t:B,∀l∈q0a c t,l.length≤t.length
 | [],l,h=>by simp[q0a] at h;simp[h]
 | x::r,l,h=>by
   have ih:=q3h c r
   unfold q0a at h
   split at h
   ·rcases List.mem_cons.1 h with rfl|h
    ·simp
    ·have:=ih l h;simp;omega
   ·split at h
    ·simp at h;subst h;simp
    ·rename_i a b hab
     rcases List.mem_cons.1 h with rfl|h
     ·have:=ih a (by rw[hab];simp);simp;omega
     ·have:=ih l (by rw[hab];simp[h]);simp;omega
theorem qs0 (a b:UInt8):((a.toNat:Int)=(b.toNat:Int))=(a=b):=by
 apply propext
 rw[←UInt8.toNat_inj]
 omega
def ic51:IC:=sR [oP 4 (.mv (.c .nils))] (sR [oP 7 (.bsl 9 1 [.c s0]),mV 5 7] (.seq (sR [oP 6 (.mv (.c i0))] (.block 0 (.loop (.seq (sR [mV 8 6,mV 9 0,oP 10 (.lens (.t 9)),bN 11 .lss 8 10] (cD 11 .skip (.exit 0))) (.seq (.block 1 (sR [mV 14 0,mV 15 6,oP 16 (.idx (.t 14) (.t 15)),mV 17 1,bN 18 .eql 16 17] (cD 18 (.reg [mV 19 5,oP 20 (.bsl 9 1 [.c s0]),oP 21 (.app 9 1 (.t 19) (.t 20)),mV 5 21]) (.drw [0,0,2,6,0,0,32,96,240,496,0,0,3072,7168,15360,32752,65535,131071] [(0,mV 22 5),(1,mV 23 5),(2,oP 24 (.len (.t 23))),(3,oP 25 (.bin .sub (.t 24) (cI 1))),(4,mV 26 5),(5,mV 27 5),(6,oP 28 (.len (.t 27))),(7,oP 29 (.bin .sub (.t 28) (cI 1))),(8,oP 30 (.iad 1 (.t 26) (.t 29))),(9,lD 31 1 30),(10,mV 32 0),(11,mV 33 6),(12,oP 34 (.idx (.t 32) (.t 33))),(13,oP 35 (.bsl 5 1 [.t 34])),(14,oP 36 (.b2s (.t 35))),(15,bN 37 .add 31 36),(16,oP 38 (.iad 1 (.t 22) (.t 25))),(17,nP (.sto 1 (.t 38) (.t 37)))])))) (.reg [mV 12 6,oP 13 (.bin .add (.t 12) (cI 1)),mV 6 13])))))) (sR [mV 39 5,mV 4 39] .ret)))
theorem dg51:Dg Tryz.prog 51 Tryz.f51 ic51 [(.t 4)]:=⟨Tryz.func51,by kernel_rfl,by kernel_rfl⟩
theorem c51 (t:B) (c:UInt8) (hl:t.length≤100000):FnR Tryz.prog G 51 [.str t,.int .u8 (c.toNat:Int)] (.sl 1 ((q0a c t).map λx=>[.str x])):=by
 refine mF dg51 Tryz.ntmps51 ?_
 simp only[ic51,go_sem]
 with_reducible repeat' (first|refine br ?_ ?_<;>intro h e<;>(try simp only[e,go_sem])<;>clear e|rw[q01 (by omega)]|refine sd ?_<;>try simp only[go_sem]|fail)
 refine q0v (λa:List B×B×Nat=>⟨q0i [(0,.str t),(1,.int .u8 (c.toNat:Int)),(5,.own 1007 (a.1++[a.2.1]).length),(6,.int .i64 (a.2.2:Int))],q0c [(1007,.arr 9 1 ((a.1++[a.2.1]).map λx=>[.str x]))]⟩) (λa=>t.length - a.2.2) (λa=>a.2.2≤t.length∧(a.1.length≤a.2.2∧a.2.1.length≤a.2.2)∧q0a c t=a.1++qjx c a.2.1 (t.drop a.2.2)) ([],[],0) (leQ []) ⟨Nat.zero_le _,by simp,by simp[qni]⟩ ?_
 intro⟨f,l,i⟩ ⟨hi,⟨hfl,hll⟩,he⟩
 simp only at hi hfl hll he
 have hal:(f++[l]).length=f.length+1:=by simp
 have hlt:f.length<(f++[l]).length:=by omega
 have hgl:(f++[l]).getD f.length default=l:=by simp[List.getD]
 have hst:∀y:B,((f++[l]).map λx=>[V.str x]).set f.length [V.str y]=(f++[y]).map λx=>[V.str x]:=λy=>by simp[List.set_append]
 have hln:∀y:B,(f++[y]).length=(f++[l]).length:=λy=>by simp
 simp only[go_sem]
 by_cases h:(i:Int)<t.length
 ·have hil:i<t.length:=by omega
  have hd:t.drop i=t.getD i 0::t.drop (i+1):=by rw[List.drop_eq_getElem_cons hil];simp[List.getD,hil]
  rw[hd] at he
  simp only[eq_true h,go_sem]
  obtain⟨b,hbb⟩:∃b,t.getD i 0=b:=⟨_,rfl⟩
  rw[hbb] at he
  by_cases hb:b=c
  ·rw[hb,qp0] at he
   generalize hacc:f++[l]=acc at *
   with_reducible repeat' (first|rw[q01 (by omega)];try simp only[go_sem,hbb,hb]|refine br ?_ ?_<;>intro h e<;>(try simp only[e,go_sem,hbb,hb])<;>clear e|refine sd ?_<;>try simp only[go_sem,hbb,hb]|fail)
   all_goals first
    | (refine⟨(acc,[],i+1),by simp only;omega,⟨by simp only;omega,⟨by simp only;omega,by simp⟩,by simp only;rw[he,←hacc];simp⟩,leN [(1007,1021)] ?_ ?_ (by simp[q0o]) (by simp only[go_sem])⟩
       ·simp only[go_sem];try simp
       ·simp only[go_sem];try simp)
    | trace_state
  ·rw[qi6 hb] at he
   have hw1:IntKind.i64.wrap (((f++[l]).length:Int) - 1)=(f.length:Int):=by rw[q01 (by omega)];omega
   have hlen2:=hln (l++[b])
   have hst2:=hst (l++[b])
   generalize hacc:f++[l]=acc at *
   with_reducible repeat' (first|rw[q01 (by omega)];try simp only[go_sem,hbb,UInt8.ofNat_toNat,qs0,eq_false hb,hw1,Int.toNat_natCast,q00 hlt,hgl]|refine br ?_ ?_<;>intro h e<;>(try simp only[e,go_sem,hbb,UInt8.ofNat_toNat,qs0,eq_false hb,hw1,Int.toNat_natCast,q00 hlt,hgl])<;>clear e|refine sd ?_<;>try simp only[go_sem,hbb,UInt8.ofNat_toNat,qs0,eq_false hb,hw1,Int.toNat_natCast,q00 hlt,hgl]|fail)
   all_goals first
    | (refine⟨(f,l++[b],i+1),by simp only;omega,⟨by simp only;omega,⟨by simp only;omega,by simp;omega⟩,by simpa using he⟩,leN [] ?_ ?_ (by simp[q0o]) (by simp only[go_sem])⟩
       ·simp only[go_sem,hlen2,hst2];try simp
       ·simp only[go_sem,hlen2,hst2];try simp)
    | trace_state
 ·simp only[eq_false h,go_sem]
  obtain rfl:i=t.length:=by omega
  rw[List.drop_length,qov] at he
  rw[he]
  with_reducible repeat' (first|refine br ?_ ?_<;>intro h e<;>(try simp only[e,go_sem])<;>clear e|rw[q01 (by omega)]|refine sd ?_<;>try simp only[go_sem]|fail)
  all_goals first|done|simp
def qey (t:B) (i:Nat):Int:=if i=0 then 0 else if i=1 then dig (t.getD 0 0) else 10*dig (t.getD 0 0)+dig (t.getD 1 0)
theorem qfy {t:B} (h:q0g t.length 1 2=false):q9l t = -1:=by
 rcases t with _|⟨a,_|⟨b,_|⟨c,t⟩⟩⟩
 ·rfl
 ·simp[q0g] at h
 ·simp[q0g] at h
 ·rfl
theorem qfd {t:B} {i:Nat} (h:q0g t.length 1 2=true) (hi:i<t.length) (hb:dig (t.getD i 0)<0):q9l t = -1:=by
 have hd:∀b:UInt8,dig b<0→q57 b 48=false:=λb hb=>by
  have:=qfw b
  rw[←this]
  exact decide_eq_false (by omega)
 rw[M.within_iff] at h
 rcases t with _|⟨a,_|⟨b,_|⟨c,t⟩⟩⟩
 ·simp at h
 ·obtain rfl:i=0:=by simp at hi;omega
  simp only[q9l]
  rw[hd a (by simpa using hb)]
  rfl
 ·have:i=0∨i=1:=by simp at hi;omega
  simp only[q9l]
  rcases this with rfl|rfl
  ·rw[hd a (by simpa using hb)];rfl
  ·rw[hd b (by simpa using hb),Bool.and_false];rfl
 ·simp at h;omega
theorem qcx {t:B} (h:q0g t.length 1 2=true) (hg:∀j,j<t.length→0≤dig (t.getD j 0)):q9l t=qey t t.length:=by
 have hd:∀b:UInt8,0≤dig b→q57 b 48=true∧dig b=(b.toNat:Int) - 48:=λb hb=>by
  have h1:q57 b 48=true:=by rw[←qfw b];exact decide_eq_true hb
  refine⟨h1, ?_⟩
  simp[dig,h1]
 rw[M.within_iff] at h
 rcases t with _|⟨a,_|⟨b,_|⟨c,t⟩⟩⟩
 ·simp at h
 ·obtain⟨h1,h2⟩:=hd a (by simpa using hg 0 (by simp))
  simp[q9l,qey,h1,h2]
 ·obtain⟨h1,h2⟩:=hd a (by simpa using hg 0 (by simp))
  obtain⟨h3,h4⟩:=hd b (by simpa using hg 1 (by simp))
  simp[q9l,qey,h1,h2,h3,h4]
 ·simp at h;omega
theorem qcn {t:B} {i:Nat} (h:q0g t.length 1 2=true) (hi:i<t.length) (hg:∀j,j<i→0≤dig (t.getD j 0)):qey t (i+1)=10*qey t i+dig (t.getD i 0)∧0≤qey t i∧qey t i≤9:=by
 rw[M.within_iff] at h
 have h0:=q7c (t.getD 0 0)
 have h1:=q7c (t.getD 1 0)
 have e0:qey t 0=0:=rfl
 have e1:qey t 1=dig (t.getD 0 0):=rfl
 have e2:qey t 2=10*dig (t.getD 0 0)+dig (t.getD 1 0):=rfl
 have:i=0∨i=1:=by omega
 rcases this with rfl|rfl
 ·rw[e0,e1];omega
 ·have:=hg 0 (by omega)
  rw[e1,e2]
  omega
def qxv:IC:=sR [oP 2 (.mv (.c i0))] (sR [oP 3 (.mv (.c i0))] (.seq (sR [mV 5 0,oP 6 (.lens (.t 5)),oP 7 (.call 114 [.t 6,cI 1,cI 2]),oP 8 (.un .not (.t 7))] (cD 8 (sR [oP 2 (.mv (.c (.int .i64 (-1))))] .ret) .skip)) (.seq (sR [oP 4 (.mv (.c i0))] (.block 0 (.loop (.seq (sR [mV 9 4,mV 10 0,oP 11 (.lens (.t 10)),bN 12 .lss 9 11] (cD 12 .skip (.exit 0))) (.seq (.block 1 (.seq (sR [mV 15 0,mV 16 4,oP 17 (.idx (.t 15) (.t 16)),oP 18 (.call 177 [.t 17]),oP 19 (.bin .lss (.t 18) (.c i0))] (cD 19 (sR [oP 2 (.mv (.c (.int .i64 (-1))))] .ret) .skip)) (.reg [mV 20 3,oP 21 (.bin .mul (cI 10) (.t 20)),mV 22 0,mV 23 4,oP 24 (.idx (.t 22) (.t 23)),oP 25 (.call 177 [.t 24]),bN 26 .add 21 25,mV 3 26]))) (.reg [mV 13 4,oP 14 (.bin .add (.t 13) (cI 1)),mV 4 14])))))) (sR [mV 27 3,mV 2 27] .ret))))
theorem dg155:Dg Tryz.prog 155 Tryz.f155 qxv [(.t 2)]:=⟨Tryz.func155,by kernel_rfl,by kernel_rfl⟩
theorem c155 (t:B) (hl:t.length≤100000):FnR Tryz.prog G 155 [.str t] (.int .i64 (q9l t)):=by
 refine mF dg155 Tryz.ntmps155 ?_
 have f1:=qc3 t.length 1 2
 simp only[qxv,go_sem]
 cases hw:q0g t.length 1 2 with
 | false =>
   rw[hw] at f1
   rw[qfy hw]
   with_reducible repeat' (first|refine br ?_ ?_<;>intro h e<;>(try simp only[e,go_sem])<;>clear e|rw[q01 (by omega)]|refine sd ?_<;>try simp only[go_sem]|(first|refine cr (f1 ..) ?_)<;>try simp only[go_sem]|fail)
 | true =>
   rw[hw] at f1
   with_reducible repeat' (first|refine br ?_ ?_<;>intro h e<;>(try simp only[e,go_sem])<;>clear e|rw[q01 (by omega)]|refine sd ?_<;>try simp only[go_sem]|(first|refine cr (f1 ..) ?_)<;>try simp only[go_sem]|fail)
   refine q0v (λi:Nat=>⟨q0i [(0,.str t),(3,.int .i64 (qey t i)),(4,.int .i64 (i:Int))],q0c []⟩) (λi=>t.length - i) (λi=>i≤t.length∧∀j,j<i→0≤dig (t.getD j 0)) 0 (leQ []) ⟨Nat.zero_le _,by omega⟩ ?_
   intro i ⟨hi,hg⟩
   simp only[go_sem]
   by_cases h:(i:Int)<t.length
   ·have hil:i<t.length:=by omega
    obtain⟨p1,p2,p3⟩:=qcn hw hil hg
    have hbad:=qfd hw hil
    have dr:=q7c (t.getD i 0)
    obtain⟨b,hbb⟩:∃b,t.getD i 0=b:=⟨_,rfl⟩
    have f2:=qpf b
    simp only[eq_true h,hbb,go_sem]
    by_cases hd:dig (t.getD i 0)<0
    ·rw[hbad hd]
     rw[hbb] at hd
     with_reducible repeat' (first|refine br ?_ ?_<;>intro h e<;>(try simp only[e,go_sem,hbb,eq_true hd])<;>clear e|rw[q01 (by omega)]|refine sd ?_<;>try simp only[go_sem,hbb,eq_true hd]|(first|refine cr (f2 ..) ?_)<;>try simp only[go_sem,hbb,eq_true hd]|fail)
     all_goals first|done|exact absurd hd (by assumption)
    ·have hg':∀j,j<i+1→0≤dig (t.getD j 0):=λj hj=>by
      rcases Nat.lt_or_ge j i with hji|hji
      ·exact hg j hji
      ·obtain rfl:j=i:=by omega
       omega
     generalize qey t i=x at *
     rw[hbb] at p1 dr hd
     with_reducible repeat' (first|rw[q01 (by omega)];try simp only[go_sem,hbb,eq_false hd]|refine br ?_ ?_<;>intro h e<;>(try simp only[e,go_sem,hbb,eq_false hd])<;>clear e|refine sd ?_<;>try simp only[go_sem,hbb,eq_false hd]|(first|refine cr (f2 ..) ?_)<;>try simp only[go_sem,hbb,eq_false hd]|fail)
     all_goals first
      | (refine⟨i+1,by omega,⟨by omega,hg'⟩, ?_⟩;simp only[p1];exact(leQ []))
      | trace_state
   ·simp only[eq_false h,go_sem]
    obtain rfl:i=t.length:=by omega
    rw[qcx hw hg]
    with_reducible repeat' (first|refine br ?_ ?_<;>intro h e<;>(try simp only[e,go_sem])<;>clear e|rw[q01 (by omega)]|refine sd ?_<;>try simp only[go_sem]|fail)
def j22:IC:=sR [oP 4 (.mv (.c i0))] (.seq (sR [mV 5 1,mV 6 0,oP 7 (.len (.t 6)),bN 8 .lss 5 7] (cD 8 (sR [mV 9 0,mV 10 1,oP 11 (.iad 1 (.t 9) (.t 10)),lD 12 1 11,oP 13 (.call 155 [.t 12]),mV 4 13] .ret) .skip)) (sR [oP 4 (.mv (.c (.int .i64 (-1))))] .ret))
theorem dg106:Dg Tryz.prog 106 Tryz.f106 j22 [(.t 4)]:=⟨Tryz.func106,by kernel_rfl,by kernel_rfl⟩
theorem c106 (ws:List B) (k:Nat) (hl:ws.length≤100000) (hw:∀x∈ws,x.length≤100000):FnR Tryz.prog G 106 [.sl 1 (ws.map λx=>[.str x]),.int .i64 (k:Int)] (.int .i64 (q1l ws k)):=by
 refine mF dg106 Tryz.ntmps106 ?_
 simp only[j22,go_sem]
 by_cases h:(k:Int)<ws.length
 ·have hil:k<ws.length:=by omega
  have hg:ws.getD k default=ws[k]:=by simp[List.getD,hil]
  have e:q1l ws k=q9l ws[k]:=by simp[q1l,hil]
  have f1:=c155 ws[k] (hw _ (List.getElem_mem hil))
  rw[e]
  generalize ws[k]=x at *
  simp only[eq_true h,go_sem]
  with_reducible repeat' (first|refine br ?_ ?_<;>intro h e<;>(try simp only[e,go_sem,q00 hil,hg])<;>clear e|rw[q01 (by omega)]|refine sd ?_<;>try simp only[go_sem,q00 hil,hg]|(first|refine cr (f1 ..) ?_)<;>try simp only[go_sem,q00 hil,hg]|fail)
 ·have e:q1l ws k = -1:=by
   simp only[q1l]
   rw[List.getElem?_eq_none (by omega)]
  rw[e]
  simp only[eq_false h,go_sem]
  with_reducible repeat' (first|refine br ?_ ?_<;>intro h e<;>(try simp only[e,go_sem])<;>clear e|rw[q01 (by omega)]|refine sd ?_<;>try simp only[go_sem]|fail)
theorem q13 (n:Int):(dec n).length≤2:=by
 unfold dec q7h
 split<;>simp
theorem q3e (e:E):e.text.length≤5:=by
 have h1:=q13 e.a
 have h2:=q13 e.p
 unfold E.text
 split
 ·simp;omega
 ·simp
def ic90:IC:=sR [oP 1 (.box 65 (.t 0)),oP 2 (.mv (.c s0))] (.seq (sR [lA 4 7 1,oP 5 (.call 118 [.t 4]),oP 6 (.un .not (.t 5))] (cD 6 (sR [oP 2 (.mv (.c s0))] .ret) .skip)) (.seq (.drw [0,1,3,7,0,16,55,127,255,0,512,1655,4095,8191] [(0,fD 7 1 1),(1,lA 8 2 7),(2,oP 9 (.call 92 [.t 8])),(3,oP 10 (.bin .add (.t 9) (.c (.str [32])))),(4,fD 11 3 1),(5,lA 12 2 11),(6,oP 13 (.call 92 [.t 12])),(7,bN 14 .add 10 13),(8,oP 15 (.bin .add (.t 14) (.c (.str [32])))),(9,fD 16 5 1),(10,lD 17 1 16),(11,oP 18 (.call 89 [.t 17])),(12,bN 19 .add 15 18),(13,mV 3 19)]) (.seq (sR [fD 20 0 1,lD 21 1 20,oP 22 (.bin .eql (.t 21) (cI 2))] (cD 22 (sR [mV 23 3,oP 24 (.bin .add (.c (.str [97,99,107,32])) (.t 23)),mV 2 24] .ret) .skip)) (sR [mV 25 3,oP 26 (.bin .add (.c (.str [100,97,116,97,32])) (.t 25)),oP 27 (.bin .add (.t 26) (.c (.str [32]))),fD 28 6 1,lD 29 1 28,bN 30 .add 27 29,mV 2 30] .ret))))
theorem dg90:Dg Tryz.prog 90 Tryz.f90 ic90 [(.t 2)]:=⟨Tryz.func90,by kernel_rfl,by kernel_rfl⟩
theorem c90 (p:Pk) (h:p.text.length≤100000):FnR Tryz.prog G 90 [.agg [.int .i64 p.kind,.int .i64 p.frm.a,.int .i64 p.frm.p,.int .i64 p.to.a,.int .i64 p.to.p,.int .i64 p.at_,.str p.text]] (.str (q0f p)):=by
 refine mF dg90 Tryz.ntmps90 ?_
 have f1:=c118 p (by omega)
 have f2:=c92 p.frm.a p.frm.p
 have f3:=c92 p.to.a p.to.p
 unfold q0f
 simp only[ic90,go_sem]
 cases hok:q48 p with
 | false =>
   rw[hok] at f1
   with_reducible repeat' (first|refine br ?_ ?_<;>intro h e<;>(try simp only[e,go_sem])<;>clear e|rw[q01 (by omega)]|refine sd ?_<;>try simp only[go_sem]|(first|refine cr (f1 ..) ?_)<;>try simp only[go_sem]|fail)
 | true =>
   rw[hok] at f1
   have hP:=qk4 hok
   have ha:=hP.at_
   have f4:=c89 p.at_ (by have:=(q76 hok).1;omega)
   rw[if_pos rfl]
   have t1:(E.text ⟨p.frm.a,p.frm.p⟩)=p.frm.text:=rfl
   have t2:(E.text ⟨p.to.a,p.to.p⟩)=p.to.text:=rfl
   rw[t1] at f2
   rw[t2] at f3
   have l1:=q3e p.frm
   have l2:=q3e p.to
   have l3:=q13 p.at_
   generalize p.frm.text=x at *
   generalize p.to.text=y at *
   generalize dec p.at_=z at *
   by_cases hk:p.kind=2
   ·rw[if_pos hk,if_pos hk]
    with_reducible repeat' (first|refine br ?_ ?_<;>intro h e<;>(try simp only[e,go_sem,eq_true hk,zA,zC,zN,zZ,zP,zU])<;>clear e|rw[q01 (by omega)]|refine sd ?_<;>try simp only[go_sem,eq_true hk,zA,zC,zN,zZ,zP,zU]|(first|refine cr (f1 ..) ?_|refine cr (f2 ..) ?_|refine cr (f3 ..) ?_|refine cr (f4 ..) ?_)<;>try simp only[go_sem,eq_true hk,zA,zC,zN,zZ,zP,zU]|fail)
    all_goals first|done|simp
   ·rw[if_neg hk,if_neg hk]
    with_reducible repeat' (first|refine br ?_ ?_<;>intro h e<;>(try simp only[e,go_sem,eq_false hk,zA,zC,zN,zZ,zP,zU])<;>clear e|rw[q01 (by omega)]|refine sd ?_<;>try simp only[go_sem,eq_false hk,zA,zC,zN,zZ,zP,zU]|(first|refine cr (f1 ..) ?_|refine cr (f2 ..) ?_|refine cr (f3 ..) ?_|refine cr (f4 ..) ?_)<;>try simp only[go_sem,eq_false hk,zA,zC,zN,zZ,zP,zU]|fail)
    all_goals first|done|simp
theorem qv7 {w:World} {O:Nat→Prop} {ρ:Nat→VL.Loc} {h:Nat→Hs} {v1 v2:V} {us:List Value} (hargs:DenArgs w O ρ h [v1,v2] us):∃u1 u2,us=[u1,u2]∧Den w O ρ h v1 u1∧Den w O ρ h v2 u2:=by
 obtain⟨h1,h2⟩:=hargs
 match us,h1 with
 | [u1,u2],_=>exact⟨u1,u2,rfl,h2 0 v1 u1 rfl rfl,h2 1 v2 u2 rfl rfl⟩
theorem qkn (s:B):(mkStr s).data.toList=s:=by simp[mkStr]
theorem qvb (ss:List B):(ss.map mkStr).map (·.data.toList)=ss:=by
 rw[List.map_map]
 induction ss with
 | nil=>rfl
 | cons s ss ih=>rw[List.map_cons,ih];simp[mkStr]
def qy9 (s:B):List V:=[.str s]
theorem joinR {P:Program} {f:FuncId} (hn:entr P f=true) (ss:List B) (sep:B) (hN:ss.length≤2000000)
 (h0:∀A c (W:World),Calls P f #[.slice A 0 c,.string (mkStr sep)] W λe w'=>e=.returned (.string (mkStr []))∧w'=W)
 (h1:∀bk o c (xs:List ByteArray) (W:World),xs.length=ss.length→xs.map (·.data.toList)=ss→(∀(j:Nat) x,xs[j]?=some x→W.cell? ⟨bk,o+j,none⟩=some (.string x))→bk<W.heap.size→xs.length≤c →
   Calls P f #[.slice (some ⟨bk,o,none⟩) xs.length c,.string (mkStr sep)] W λe w'=>e=.returned (.string (mkStr (Lib.join ss sep)))∧Below W.heap.size W w') :
 FnR P G f [.sl 1 (ss.map qy9),.str sep] (.str (Lib.join ss sep)) where
 en:=hn
 ne:=⟨_,_,rfl,rfl⟩
 run:=λW ρ ext us hg hlt hno hng r hargs=>by
  obtain⟨u,u2,rfl,hd,hd2⟩:=qv7 hargs
  obtain rfl:u2=.string (mkStr sep):=q5n hd2
  have hc:chH []=λ_=>.fresh:=by funext x;simp[chH]
  have fin:∀W',Below W.heap.size W W'→∃(u:Value) (res:V) (out:List Hs) (ρ':Nat→VL.Loc),Ending.returned (Value.string (mkStr (Lib.join ss sep)))=.returned u∧(res=.str (Lib.join ss sep)∧out=[])∧RelH ⟨W,blocks ρ (chH []),ext,0,ρ⟩ ρ' (chH out) W' ∧
   Den W' (owns ⟨W,blocks ρ (chH []),ext,0,ρ⟩ ρ' (chH out)) ρ' (chH out) res u:=λW' hb =>
   ⟨_,_,[],λ_=>default,rfl,⟨rfl,rfl⟩,⟨hb.os,hb.tape,hb.output,hb.size,λb hb1 _=>hb.block b hb1,λc=>(by rw[hc];trivial),λc hl=>(by rw[hc] at hl;cases hl),λc c' hl=>(by rw[hc] at hl;cases hl),λi hi=>absurd hi (Nat.not_lt_zero _)⟩,Imm.str _⟩
  have hd:Imm W (owns ⟨W,blocks ρ (chH []),ext,0,ρ⟩ ρ (chH [])) (.sl 1 (ss.map qy9)) u:=hd
  generalize hr:ss.map qy9=rows at hd
  have hlen:rows.length=ss.length:=by rw[←hr,List.length_map]
  cases hd with
  | esl _ A cap =>
    have e:ss=[]:=List.length_eq_zero_iff.1 hlen.symm
    subst e
    exact(h0 A cap W).mono λe w' ⟨he,hw⟩=>by subst hw;subst he;exact fin _ (Below.refl _ _)
  | sl _ _ blk off cap cs k1 k2 k3 k4 k5 k6 k7 =>
    have hcell:∀(j:Nat) x,(ss.map mkStr)[j]?=some x→W.cell? ⟨blk,off+j,none⟩=some (.string x):=λj x hx=>by
     rw[List.getElem?_map] at hx
     cases hs:ss[j]? with
     | none=>rw[hs] at hx;cases hx
     | some s =>
       rw[hs] at hx
       cases hx
       have hrow:rows[j]?=some (qy9 s):=by rw[←hr,List.getElem?_map,hs];rfl
       have hcell:=k6 j _ 0 _ hrow rfl
       have hi:=k7 j _ 0 _ hrow rfl
       rw[show j*1+0=j by omega] at hcell
       rw[hcell]
       have inv:∀x,Imm W (owns ⟨W,blocks ρ (chH []),ext,0,ρ⟩ ρ (chH [])) (.str s) x→x=.string (mkStr s):=λx h=>by cases h;rfl
       rw[inv _ hi]
    have:=h1 blk off cap (ss.map mkStr) W (by simp) (qvb ss) hcell k2 (by simp;omega)
    rw[show(ss.map mkStr).length=rows.length by simp[hlen]] at this
    exact this.mono λe w' ⟨he,hb⟩=>by subst he;exact fin _ hb
theorem e153:entr Tryz.prog 153=true:=by kernel_rfl
theorem c153 (ss:List B) (sep:B) (hN:ss.length≤2000000) (hl:(Lib.join ss sep).length≤2000000):FnR Tryz.prog G 153 [.sl 1 (ss.map λx=>[.str x]),.str sep] (.str (Lib.join ss sep)):=by
 show FnR Tryz.prog G 153 [.sl 1 (ss.map qy9),.str sep] (.str (Lib.join ss sep))
 refine joinR e153 ss sep hN (λA c W=>Any.strings_Join_none Tryz.lays156 Tryz.Builder_Extra_156 A c (mkStr sep) W) λbk o c xs W hx he hcells hbk hcap=>?_
 have hm:(mkStr sep).data.toList=sep:=qkn sep
 refine(Any.strings_Join Tryz.lays156 Tryz.Builder_Extra_156 bk o c xs (mkStr sep) W hcells hbk (by omega) hcap (by rw[he,hm];omega)).mono λe w' ⟨h1,h2⟩=>⟨?_,h2⟩
 rw[h1,he,hm]
 rfl
theorem qeh (sep:B) (sv k:Nat) (s:B):Lib.splitK sep sv (k+1) s=if Lib.index s sep == -1 then [s] else s.take ((Lib.index s sep).toNat+sv)::Lib.splitK sep sv k (s.drop ((Lib.index s sep).toNat+sep.length)):=rfl
theorem q9x (c:UInt8):∀(n:Nat) (s:B),s.length≤n→Lib.splitK [c] 0 (Lib.count s [c]) s=q0a c s
 | n,s,hn=>by
   by_cases hc:c∈s
   ·obtain⟨us,bs,hs,hna⟩:=List.eq_append_cons_of_mem hc
    subst hs
    have htw:((us++c::bs).takeWhile λb=>decide (b≠c))=us:=by
     rw[List.takeWhile_append_of_pos]
     ·simp
     ·intro x hx
      exact decide_eq_true λe=>hna (e▸hx)
    have hi:Lib.index (us++c::bs) [c]=(us.length:Int):=by rw[q8h,if_pos hc,htw]
    have hd:(us++c::bs).drop (us.length+[c].length)=bs:=by simp[List.drop_append]
    have hct:=Lib.count_hit (by simp) hi
    rw[hd,Nat.add_comm] at hct
    match n,hn with
    | 0,hn=>simp at hn
    | n+1,hn =>
      have ih:=q9x c n bs (by simp at hn;omega)
      have hne:((us.length:Int) == -1)=false:=beq_eq_false_iff_ne.2 (by omega)
      rw[hct,q1f,q1n hna,←ih,qeh,hi,hne,if_neg (by decide),Int.toNat_natCast,hd]
      simp
   ·have hi:Lib.index s [c] = -1:=by rw[q8h,if_neg hc]
    rw[Lib.count_miss hi,q1n hc]
    rfl
theorem FnR.ofP {P:Program} {f:FuncId} {vs:List V} {v:V} (this:FnP P G f 0 [] vs (λr o=>o=[]∧r=v)):FnR P G f vs v :=
 ⟨this.en,this.ne.imp λr ⟨o,h⟩=>⟨o,h.2,h.1⟩,λW ρ ext us a b c d e f=>(this.run W ρ ext us a b c d e f).mono λe W' ⟨u,r,o,ρ',he,⟨h1,h2⟩,h3⟩=>⟨u,r,o,ρ',he,⟨h2,h1⟩,h3⟩⟩
theorem e97:entr Tryz.prog 97=true:=by kernel_rfl
theorem c97 (s:B) (c:UInt8) (hs:s.length≤100000):FnR Tryz.prog G 97 [.str s,.str [c]] (.sl 1 ((q0a c s).map λx=>[.str x])):=by
 refine FnR.ofP (FnP.lib (us:=[.string (mkStr s),.string (mkStr [c])]) e97 rfl ⟨_,rfl⟩ λW hg=>?_)
 obtain⟨⟨m,hm⟩,_⟩:=hg
 have hsz:(mkStr s).size<4294967281:=by simp[mkStr,ByteArray.size];omega
 refine(Tryz.strings_Split (mkStr s) (mkStr [c]) m W hsz hm (by simp[mkStr,ByteArray.size])).mono λe W' ⟨he,hw⟩=>?_
 have hlen:=Lib.splitB_all (mkStr [c]) (by simp[mkStr,ByteArray.size]) 0 _ (mkStr s) rfl
 have hx:(Lib.splitB (mkStr [c]) 0 (Lib.countB (mkStr s) (mkStr [c])) (mkStr s)).map (·.data.toList)=q0a c s:=by
  rw[Lib.splitB_data,←q9x c _ s (Nat.le_refl _)]
  simp only[Lib.countB,qkn]
 generalize hxs:Lib.splitB (mkStr [c]) 0 (Lib.countB (mkStr s) (mkStr [c])) (mkStr s)=xs at *
 generalize Lib.countB (mkStr s) (mkStr [c])=n at *
 have hrl:((q0a c s).map strV).length=n+1:=by rw[←hx];simp[hlen]
 subst hw
 refine⟨(Below.refl _ _).alloc (Nat.le_refl _) _,_,_,he,rfl,λO hO=>?_⟩
 show Imm _ O (.sl 1 ((q0a c s).map strV)) _
 rw[←hrl]
 have row:∀(i:Nat) r (j:Nat) v,((q0a c s).map strV)[i]?=some r→r[j]?=some v→∃x,j=0∧xs[i]?=some x∧v=.str x.data.toList:=λi r j v hr hv=>by
  rw[←hx,List.map_map,List.getElem?_map] at hr
  cases hxi:xs[i]? with
  | none=>rw[hxi] at hr;cases hr
  | some x =>
    rw[hxi] at hr
    cases hr
    match j,hv with
    | 0,hv=>cases hv;exact⟨x,rfl,rfl,rfl⟩
    | j+1,hv=>simp[strV] at hv
 refine Imm.sl 1 _ W.heap.size 0 _ (λi _=>.string (xs.getD i ByteArray.empty)) (λh=>absurd (hO _ h) (Nat.lt_irrefl _)) (by simp) (by omega) (λr hr=>?_) (Nat.le_refl _) (λi r j v hr hv=>?_) (λi r j v hr hv=>?_)
 ·obtain⟨x,_,rfl⟩:=List.mem_map.1 hr
  rfl
 ·obtain⟨x,rfl,h2,rfl⟩:=row i r j v hr hv
  rw[show 0+(i*1+0)=i by omega,World.cell?_alloc_new]
  simp[h2]
 ·obtain⟨x,rfl,h2,rfl⟩:=row i r j v hr hv
  have:(Value.string (xs.getD i ByteArray.empty))=.string (mkStr x.data.toList):=by simp[h2,mkStr]
  rw[this]
  exact Imm.str _
def j1n:IC:=sR [oP 4 (.mv cF)] (sR [mV 5 0,oP 6 (.lens (.t 5)),mV 7 1,oP 8 (.lens (.t 7)),bN 9 .geq 6 8,mV 10 9,gT 11 10 (.mv (.t 0)),gT 12 10 (.mv (.t 1)),gT 13 10 (.lens (.t 12)),gT 14 10 (.sls (.t 11) none (some (.t 13))),gT 15 10 (.mv (.t 1)),gT 16 10 (.bin .eql (.t 14) (.t 15)),pF 17 10 16,mV 4 17] .ret)
theorem dg188:Dg Tryz.prog 188 Tryz.f188 j1n [(.t 4)]:=⟨Tryz.func188,by kernel_rfl,by kernel_rfl⟩
theorem c188 (s p:B) (hs:s.length≤2000000) (hp:p.length≤2000000):FnR Tryz.prog G 188 [.str s,.str p] (.bool (p.isPrefixOf s)):=by
 refine mF dg188 Tryz.ntmps188 ?_
 simp only[j1n,go_sem]
 have key:p.isPrefixOf s=(decide ((p.length:Int)≤s.length)&&decide (s.take p.length=p)):=by
  rw[Bool.eq_iff_iff]
  simp only[List.isPrefixOf_iff_prefix,Bool.and_eq_true,decide_eq_true_eq]
  constructor
  ·intro h
   exact⟨by have:=h.length_le;omega,(List.prefix_iff_eq_take.1 h).symm⟩
  ·rintro⟨_,h⟩
   exact List.prefix_iff_eq_take.2 h.symm
 rw[key]
 by_cases h:(p.length:Int)≤s.length
 ·rw[decide_eq_true h,Bool.true_and]
  simp only[eq_true h,go_sem]
  with_reducible repeat' (first|refine br ?_ ?_<;>intro h e<;>(try simp only[e,go_sem,eq_true h,Int.toNat_natCast,List.drop_zero])<;>clear e|rw[q01 (by omega)]|refine sd ?_<;>try simp only[go_sem,eq_true h,Int.toNat_natCast,List.drop_zero]|fail)
  all_goals first|done|omega|trace_state
 ·rw[decide_eq_false h,Bool.false_and]
  simp only[eq_false h,go_sem]
  with_reducible repeat' (first|refine br ?_ ?_<;>intro h e<;>(try simp only[e,go_sem,eq_false h])<;>clear e|rw[q01 (by omega)]|refine sd ?_<;>try simp only[go_sem,eq_false h]|fail)
def qwu:IC:=sR [oP 4 (.mv (.c s0))] (.seq (sR [mV 5 0,mV 6 1,oP 7 (.call 188 [.t 5,.t 6])] (cD 7 (sR [mV 8 0,mV 9 1,oP 10 (.lens (.t 9)),oP 11 (.sls (.t 8) (some (.t 10)) none),mV 4 11] .ret) .skip)) (sR [mV 12 0,mV 4 12] .ret))
theorem dg151:Dg Tryz.prog 151 Tryz.f151 qwu [(.t 4)]:=⟨Tryz.func151,by kernel_rfl,by kernel_rfl⟩
theorem c151 (s p:B) (hs:s.length≤2000000) (hp:p.length≤2000000):FnR Tryz.prog G 151 [.str s,.str p] (.str (if p.isPrefixOf s then s.drop p.length else s)):=by
 refine mF dg151 Tryz.ntmps151 ?_
 have f1:=c188 s p hs hp
 simp only[qwu,go_sem]
 cases h:p.isPrefixOf s with
 | false =>
   rw[h] at f1
   rw[if_neg (by simp)]
   with_reducible repeat' (first|refine br ?_ ?_<;>intro h e<;>(try simp only[e,go_sem])<;>clear e|rw[q01 (by omega)]|refine sd ?_<;>try simp only[go_sem]|(first|refine cr (f1 ..) ?_)<;>try simp only[go_sem]|fail)
 | true =>
   have hl:=(List.isPrefixOf_iff_prefix.1 h).length_le
   have hle:(p.length:Int)≤s.length:=by omega
   rw[h] at f1
   rw[if_pos rfl]
   with_reducible repeat' (first|refine br ?_ ?_<;>intro h e<;>(try simp only[e,go_sem,eq_true hle,Int.toNat_natCast])<;>clear e|rw[q01 (by omega)]|refine sd ?_<;>try simp only[go_sem,eq_true hle,Int.toNat_natCast]|(first|refine cr (f1 ..) ?_)<;>try simp only[go_sem,eq_true hle,Int.toNat_natCast]|fail)
   all_goals first|done|omega|(rw[List.take_length])|trace_state
def qzo:IC:=sR [oP 4 (.mv (.c s0))] (sR [mV 5 0,mV 6 1,oP 7 (.call 151 [.t 5,.t 6]),mV 4 7] .ret)
theorem dg100:Dg Tryz.prog 100 Tryz.f100 qzo [(.t 4)]:=⟨Tryz.func100,by kernel_rfl,by kernel_rfl⟩
theorem c100 (s p:B) (hs:s.length≤2000000) (hp:p.length≤2000000):FnR Tryz.prog G 100 [.str s,.str p] (.str (if p.isPrefixOf s then s.drop p.length else s)):=by
 refine mF dg100 Tryz.ntmps100 ?_
 have f1:=c151 s p hs hp
 simp only[qzo,go_sem]
 with_reducible repeat' (first|refine br ?_ ?_<;>intro h e<;>(try simp only[e,go_sem])<;>clear e|rw[q01 (by omega)]|refine sd ?_<;>try simp only[go_sem]|(first|refine cr (f1 ..) ?_)<;>try simp only[go_sem]|fail)
theorem qqb:∀(xs:List B),xs≠[]→Lib.join xs [10]++[10]=q2b xs
 | [],h=>absurd rfl h
 | x::r,_=>by
   rw[Lib.join_cons]
   have:∀r:List B,Lib.joinTail [10] r++[10]=10::q2b r:=λr=>by
    induction r with
    | nil=>rfl
    | cons y r ih =>
      have e:Lib.joinTail [10] (y::r)=10::(y++Lib.joinTail [10] r):=by simp[Lib.joinTail]
      rw[e]
      simp only[List.cons_append,List.append_assoc,ih]
      simp[q2b]
   rw[List.append_assoc,this]
   simp[q2b]
theorem qcd (a b:List B):q2b (a++b)=q2b a++q2b b:=by simp[q2b]
theorem q4e:∀(l:List B) (k:Nat),(∀x∈l,x.length≤k)→(q2b l).length≤l.length*(k+1)
 | [],_,_=>by simp[q2b]
 | x::l,k,h=>by
   have ih:=q4e l k λy hy=>h y (List.mem_cons_of_mem _ hy)
   have hx:=h x (List.mem_cons_self ..)
   have e:q2b (x::l)=x++10::q2b l:=by simp[q2b]
   rw[e,zA,zC,zC,Nat.add_mul]
   omega
theorem q96 (n:Nat):dec (n:Int)=q7h n:=by simp[dec]
def ic98:IC:=sR [oP 4 (.mv (.c i0))] (.seq (sR [mV 8 1,mV 9 0,oP 10 (.len (.t 9)),bN 11 .geq 8 10,mV 12 11,gF 13 12 (.mv (.t 0)),gF 14 12 (.mv (.t 1)),gF 15 12 (.iad 1 (.t 13) (.t 14)),gF 16 12 (.ld 1 false (.t 15)),gF 17 12 (.lens (.t 16)),gF 18 12 (.call 65 [.t 17,cI 1,cI 2]),gF 19 12 (.un .not (.t 18)),pT 20 12 19] (cD 20 (sR [oP 4 (.mv (.c (.int .i64 (-1))))] .ret) .skip)) (sR [oP 5 (.mv (.c i0))] (.seq (sR [mV 21 0,mV 22 1,oP 23 (.iad 1 (.t 21) (.t 22)),lD 24 1 23,oP 25 (.s2b (.t 24)),oP 26 (.len (.t 25)),oP 27 (.mv (.c i0))] (.block 0 (.loop (sR [bN 28 .lss 27 26] (.seq (cD 28 .skip (.exit 0)) (.seq (.block 1 (sR [oP 29 (.iad 1 (.t 25) (.t 27)),lD 30 1 29,mV 7 30] (.seq (sR [mV 31 7,oP 32 (.call 147 [.t 31,.c (.int .u8 48)]),oP 33 (.un .not (.t 32))] (cD 33 (sR [oP 4 (.mv (.c (.int .i64 (-1))))] .ret) .skip)) (.reg [mV 34 5,oP 35 (.bin .mul (cI 10) (.t 34)),mV 36 7,oP 37 (.bin .sub (.t 36) (.c (.int .u8 48))),oP 38 (.cvi .i64 (.t 37)),bN 39 .add 35 38,mV 5 39])))) (.reg [oP 40 (.bin .add (.t 27) (cI 1)),mV 27 40]))))))) (sR [mV 41 5,mV 4 41] .ret))))
theorem dg98:Dg Tryz.prog 98 Tryz.f98 ic98 [(.t 4)]:=⟨Tryz.func98,by kernel_rfl,by kernel_rfl⟩
theorem c98 (ws:List B) (k:Nat) (hl:ws.length≤100000) (hw:∀x∈ws,x.length≤100000):FnR Tryz.prog G 98 [.sl 1 (ws.map λx=>[.str x]),.int .i64 (k:Int)] (.int .i64 (q1l ws k)):=by
 refine mF dg98 Tryz.ntmps98 ?_
 simp only[ic98,go_sem]
 by_cases h:(k:Int)<ws.length
 rotate_left
 ·have e:q1l ws k = -1:=by
   simp only[q1l]
   rw[List.getElem?_eq_none (by omega)]
  have h':(ws.length:Int)≤k:=by omega
  rw[e]
  simp only[eq_true h',go_sem]
  with_reducible repeat' (first|refine br ?_ ?_<;>intro h e<;>(try simp only[e,go_sem])<;>clear e|rw[q01 (by omega)]|refine sd ?_<;>try simp only[go_sem]|fail)
 have hil:k<ws.length:=by omega
 have h':¬(ws.length:Int)≤k:=by omega
 have hg:ws.getD k default=ws[k]:=by simp[List.getD,hil]
 have e:q1l ws k=q9l ws[k]:=by simp[q1l,hil]
 have hxl:=hw _ (List.getElem_mem hil)
 rw[e]
 generalize ws[k]=x at *
 have f1:=c65 x.length 1 2
 cases hwi:q0g x.length 1 2 with
 | false =>
   rw[hwi] at f1
   rw[qfy hwi]
   simp only[eq_false h',go_sem]
   with_reducible repeat' (first|refine br ?_ ?_<;>intro h e<;>(try simp only[e,go_sem,q00 hil,hg])<;>clear e|rw[q01 (by omega)]|refine sd ?_<;>try simp only[go_sem,q00 hil,hg]|(first|refine cr (f1 ..) ?_)<;>try simp only[go_sem,q00 hil,hg]|fail)
 | true =>
   rw[hwi] at f1
   simp only[eq_false h',go_sem]
   with_reducible repeat' (first|refine br ?_ ?_<;>intro h e<;>(try simp only[e,go_sem,q00 hil,hg])<;>clear e|rw[q01 (by omega)]|refine sd ?_<;>try simp only[go_sem,q00 hil,hg]|(first|refine cr (f1 ..) ?_)<;>try simp only[go_sem,q00 hil,hg]|fail)
   refine q0v (λi:Nat=>⟨q0i [(5,.int .i64 (qey x i)),(25,.sl 1 (x.map λb=>[.int .u8 (b.toNat:Int)])),(26,.int .i64 x.length),(27,.int .i64 (i:Int))],q0c []⟩) (λi=>x.length - i) (λi=>i≤x.length∧∀j,j<i→0≤dig (x.getD j 0)) 0 (leQ []) ⟨Nat.zero_le _,by omega⟩ ?_
   intro i ⟨hi,hgd⟩
   simp only[go_sem]
   by_cases hh:(i:Int)<x.length
   ·have hxi:i<x.length:=by omega
    obtain⟨p1,p2,p3⟩:=qcn hwi hxi hgd
    have hbad:=qfd hwi hxi
    have hb0:x.getD i default=x.getD i 0:=by simp[List.getD,hxi]
    have hge:=qfw (x.getD i 0)
    obtain⟨b,hbb⟩:∃b,x.getD i 0=b:=⟨_,rfl⟩
    have hb1:x.getD i default=b:=hb0.trans hbb
    rw[hbb] at hge hbad p1
    have f2:=qrf b
    cases hf:q57 b 48 with
    | false =>
      rw[hf] at f2 hge
      rw[hbad (by have:=of_decide_eq_false hge;omega)]
      simp only[eq_true hh,go_sem]
      refine effG (by omega) ?_
      simp only[go_sem,hb1]
      with_reducible repeat' (first|refine br ?_ ?_<;>intro h e<;>(try simp only[e,go_sem])<;>clear e|rw[q01 (by omega)]|refine sd ?_<;>try simp only[go_sem]|(first|refine cr (f2 ..) ?_)<;>try simp only[go_sem]|fail)
    | true =>
      rw[hf] at f2 hge
      have hd0:=of_decide_eq_true hge
      have hdb:dig b=(b.toNat:Int) - 48:=by simp[dig,hf]
      have dr:=q7c b
      have hu:IntKind.u8.wrap ((b.toNat:Int) - 48)=dig b:=by rw[u8w (by omega),hdb]
      have hu2:IntKind.i64.wrap (dig b)=dig b:=q01 (by omega)
      have hg':∀j,j<i+1→0≤dig (x.getD j 0):=λj hj=>by
       rcases Nat.lt_or_ge j i with hji|hji
       ·exact hgd j hji
       ·obtain rfl:j=i:=by omega
        rw[hbb];exact hd0
      simp only[eq_true hh,go_sem]
      refine effG (by omega) ?_
      simp only[go_sem,hb1]
      generalize qey x i=y at *
      have hu3:IntKind.i64.wrap (10*y)=10*y:=q01 (by omega)
      have hu4:IntKind.i64.wrap (10*y+dig b)=10*y+dig b:=q01 (by omega)
      with_reducible repeat' (first|rw[q01 (by omega)];try simp only[go_sem,hu,hu2,hu3,hu4]|refine br ?_ ?_<;>intro h e<;>(try simp only[e,go_sem,hu,hu2,hu3,hu4])<;>clear e|refine sd ?_<;>try simp only[go_sem,hu,hu2,hu3,hu4]|(first|refine cr (f2 ..) ?_)<;>try simp only[go_sem,hu,hu2,hu3,hu4]|fail)
      all_goals first
       | (refine⟨i+1,by omega,⟨by omega,hg'⟩, ?_⟩;simp only[p1,hu3,hu4];exact(leQ []))
       | trace_state
   ·simp only[eq_false hh,go_sem]
    obtain rfl:i=x.length:=by omega
    rw[qcx hwi hgd]
    with_reducible repeat' (first|refine br ?_ ?_<;>intro h e<;>(try simp only[e,go_sem])<;>clear e|rw[q01 (by omega)]|refine sd ?_<;>try simp only[go_sem]|fail)
def qxm:IC:=sR [oP 2 (.mv (.c s0))] (sR [mV 3 0,mV 4 0,oP 5 (.len (.t 4)),oP 6 (.call 49 [.t 5]),oP 7 (.bsl 9 1 [.t 6]),oP 8 (.app 9 1 (.t 3) (.t 7)),oP 9 (.call 153 [.t 8,.c (.str [10])]),oP 10 (.bin .add (.t 9) (.c (.str [10]))),mV 2 10] .ret)
theorem dg103:Dg Tryz.prog 103 Tryz.f103 qxm [(.t 2)]:=⟨Tryz.func103,by kernel_rfl,by kernel_rfl⟩
theorem o103 (ls:List B) (hl:ls.length≤20) (hx:∀x∈ls,x.length≤1000):FnP Tryz.prog G 103 0 [.arr 9 1 (ls.map λx=>[.str x])] [.own 0 ls.length] (λr o=>r=.str (q2b ls++(q7h ls.length++[10]))∧o=[]):=by
 refine mP dg103 Tryz.ntmps103 ⟨_,_,rfl,rfl⟩ ?_
 have hne:ls++[q7h ls.length]≠[]:=by simp
 have hlen:=q4e (ls++[q7h ls.length]) 1000 (λx hx'=>by
  rcases List.mem_append.1 hx' with h|h
  ·exact hx x h
  ·simp only[List.mem_singleton] at h
   subst h
   have:=q13 (ls.length:Int)
   rw[q96] at this
   omega)
 have hj:=qqb _ hne
 have e:q2b ls++(q7h ls.length++[10])=q2b (ls++[q7h ls.length]):=by rw[qcd];simp[q2b]
 rw[e,←hj]
 rw[←hj] at hlen
 simp only[zA,zC,zN] at hlen
 have hm:(ls.length+(0+1))*(1000+1)≤21*1001:=Nat.mul_le_mul_right _ (by omega)
 have f1:=c49 (ls.length:Int) (by omega)
 rw[q96] at f1
 have f2:=c153 (ls++[q7h ls.length]) [10] (by simp;omega) (by omega)
 generalize Lib.join (ls++[q7h ls.length]) [10]=J at *
 generalize hd:q7h ls.length=d at *
 simp only[qxm,go_sem]
 with_reducible repeat' (first|refine br ?_ ?_<;>intro h e<;>(try simp only[e,go_sem])<;>clear e|rw[q01 (by omega)]|refine sd ?_<;>try simp only[go_sem]|(first|refine cr (f1 ..) ?_)<;>try simp only[go_sem]|fail)
 refine q2p f2 [1008] true (by simp only[go_sem];first|done|simp) (by simp only[List.mem_singleton];rintro c rfl;simp only[go_sem]) rfl (.inl rfl) ?_
 simp only[go_sem]
 with_reducible repeat' (first|refine br ?_ ?_<;>intro h e<;>(try simp only[e,go_sem])<;>clear e|rw[q01 (by omega)]|refine sd ?_<;>try simp only[go_sem]|fail)
 all_goals first
  | done
  | exact q1m (.str (J++[10])) [] [] (by simp only[go_sem]) ⟨rfl,rfl⟩ (by simp only[go_sem]) (by simp[q1c]) (by simp only[go_sem])
  | trace_state
theorem qdc (p:Pk) (h:q48 p=true):q0f p=Lib.join ((if p.kind=1 then [[100,97,116,97],p.frm.text,p.to.text,dec p.at_,p.text] else [[97,99,107],p.frm.text,p.to.text,dec p.at_]):List B) [32]:=by
 have hk:=(q76 h).2
 unfold q0f
 rw[if_pos h]
 rcases hk with⟨hk,_⟩|⟨hk,_⟩
 ·rw[hk]
  simp[Lib.join_cons,Lib.joinTail]
 ·rw[hk]
  simp[Lib.join_cons,Lib.joinTail]
theorem q2h (p:Pk):(q0f p).length≤p.text.length+30:=by
 have l1:=q3e p.frm
 have l2:=q3e p.to
 have l3:=q13 p.at_
 unfold q0f
 split
 ·simp only[zA,zC]
  split<;>simp<;>omega
 ·simp
def qv2:IC:=sR [oP 1 (.box 65 (.t 0)),oP 2 (.mv (.c s0))] (.seq (sR [lA 4 7 1,oP 5 (.call 73 [.t 4]),oP 6 (.un .not (.t 5))] (cD 6 (sR [oP 2 (.mv (.c s0))] .ret) .skip)) (.seq (.drw [0,1,3,0,8,31,0,64,255,511,1023] [(0,fD 7 1 1),(1,lA 8 2 7),(2,oP 9 (.call 102 [.t 8])),(3,fD 10 3 1),(4,lA 11 2 10),(5,oP 12 (.call 102 [.t 11])),(6,fD 13 5 1),(7,lD 14 1 13),(8,oP 15 (.call 49 [.t 14])),(9,oP 16 (.bsl 9 1 [.c (.str [97,99,107]),.t 9,.t 12,.t 15])),(10,mV 3 16)]) (.seq (sR [fD 17 0 1,lD 18 1 17,oP 19 (.bin .eql (.t 18) (cI 1))] (cD 19 (sR [mV 20 3,oP 21 (.iad 1 (.t 20) (.c i0)),nP (.sto 1 (.t 21) (.c (.str [100,97,116,97])))] (.reg [mV 22 3,fD 23 6 1,lD 24 1 23,oP 25 (.bsl 9 1 [.t 24]),oP 26 (.app 9 1 (.t 22) (.t 25)),mV 3 26])) .skip)) (sR [mV 27 3,oP 28 (.call 153 [.t 27,.c (.str [32])]),mV 2 28] .ret))))
theorem dg104:Dg Tryz.prog 104 Tryz.f104 qv2 [(.t 2)]:=⟨Tryz.func104,by kernel_rfl,by kernel_rfl⟩
theorem qmy (p:Pk) (h:p.text.length≤100000):FnR Tryz.prog G 104 [.agg [.int .i64 p.kind,.int .i64 p.frm.a,.int .i64 p.frm.p,.int .i64 p.to.a,.int .i64 p.to.p,.int .i64 p.at_,.str p.text]] (.str (q0f p)):=by
 refine mF dg104 Tryz.ntmps104 ?_
 have f1:=c73 p (by omega)
 have f2:=qv4 p.frm.a p.frm.p
 have f3:=qv4 p.to.a p.to.p
 have hln:=q2h p
 simp only[qv2,go_sem]
 cases hok:q48 p with
 | false =>
   rw[hok] at f1
   have e:q0f p=[]:=by unfold q0f;rw[hok];rfl
   rw[e]
   with_reducible repeat' (first|refine br ?_ ?_<;>intro h e<;>(try simp only[e,go_sem])<;>clear e|rw[q01 (by omega)]|refine sd ?_<;>try simp only[go_sem]|(first|refine cr (f1 ..) ?_)<;>try simp only[go_sem]|fail)
 | true =>
   rw[hok] at f1
   have f4:=c49 p.at_ (by have:=(q76 hok).1;omega)
   have hj:=qdc p hok
   have t1:(E.text ⟨p.frm.a,p.frm.p⟩)=p.frm.text:=rfl
   have t2:(E.text ⟨p.to.a,p.to.p⟩)=p.to.text:=rfl
   rw[t1] at f2
   rw[t2] at f3
   rw[hj] at hln ⊢
   clear hj
   generalize p.frm.text=x at *
   generalize p.to.text=y at *
   generalize dec p.at_=z at *
   by_cases hk:p.kind=1
   ·rw[if_pos hk] at hln ⊢
    have f5:=c153 [[100,97,116,97],x,y,z,p.text] [32] (by simp) (by omega)
    with_reducible repeat' (first|refine br ?_ ?_<;>intro h e<;>(try simp only[e,go_sem,eq_true hk])<;>clear e|rw[q01 (by omega)]|refine sd ?_<;>try simp only[go_sem,eq_true hk]|(first|refine cr (f1 ..) ?_|refine cr (f2 ..) ?_|refine cr (f3 ..) ?_|refine cr (f4 ..) ?_)<;>try simp only[go_sem,eq_true hk]|fail)
    refine q2p f5 [1026] true (by simp only[go_sem];first|done|simp) (by simp only[List.mem_singleton];rintro c rfl;simp only[go_sem]) rfl (.inl rfl) ?_
    simp only[go_sem]
    with_reducible repeat' (first|refine br ?_ ?_<;>intro h e<;>(try simp only[e,go_sem])<;>clear e|rw[q01 (by omega)]|refine sd ?_<;>try simp only[go_sem]|fail)
   ·rw[if_neg hk] at hln ⊢
    have f5:=c153 [[97,99,107],x,y,z] [32] (by simp) (by omega)
    with_reducible repeat' (first|refine br ?_ ?_<;>intro h e<;>(try simp only[e,go_sem,eq_false hk])<;>clear e|rw[q01 (by omega)]|refine sd ?_<;>try simp only[go_sem,eq_false hk]|(first|refine cr (f1 ..) ?_|refine cr (f2 ..) ?_|refine cr (f3 ..) ?_|refine cr (f4 ..) ?_)<;>try simp only[go_sem,eq_false hk]|fail)
    refine q2p f5 [1016] true (by simp only[go_sem];first|done|simp) (by simp only[List.mem_singleton];rintro c rfl;simp only[go_sem]) rfl (.inl rfl) ?_
    simp only[go_sem]
    with_reducible repeat' (first|refine br ?_ ?_<;>intro h e<;>(try simp only[e,go_sem])<;>clear e|rw[q01 (by omega)]|refine sd ?_<;>try simp only[go_sem]|fail)
theorem qkd {l:List B} (h:l.length=4):∃a b c d,l=[a,b,c,d]:=by
 rcases l with _|⟨a,_|⟨b,_|⟨c,_|⟨d,_|⟨e,l⟩⟩⟩⟩⟩<;>simp at h
 exact⟨a,b,c,d,rfl⟩
theorem qir {l:List B} (h:l.length=5):∃a b c d e,l=[a,b,c,d,e]:=by
 rcases l with _|⟨a,_|⟨b,_|⟨c,_|⟨d,_|⟨e,_|⟨f,l⟩⟩⟩⟩⟩⟩<;>simp at h
 exact⟨a,b,c,d,e,rfl⟩
theorem qrh {t:B} {a b c d:B} (h:q0a 32 t=[a,b,c,d]) (n:Int) (ok:Bool) (hl:¬70<t.length):q55 t n ok=if(q08 b).isSome=true∧(q08 c).isSome=true∧ok=true∧q48 ⟨if a=[100,97,116,97] then 1 else 2,(q08 b).getD .zero,(q08 c).getD .zero,n,[]⟩=true∧q0f ⟨if a=[100,97,116,97] then 1 else 2,(q08 b).getD .zero,(q08 c).getD .zero,n,[]⟩=t then some ⟨if a=[100,97,116,97] then 1 else 2,(q08 b).getD .zero,(q08 c).getD .zero,n,[]⟩ else none:=by
 unfold q55
 simp only[h]
 rw[if_neg (by simp;omega)]
 rfl
theorem qrj {t:B} {a b c d e:B} (h:q0a 32 t=[a,b,c,d,e]) (n:Int) (ok:Bool) (hl:¬70<t.length):q55 t n ok=if(q08 b).isSome=true∧(q08 c).isSome=true∧ok=true∧q48 ⟨if a=[100,97,116,97] then 1 else 2,(q08 b).getD .zero,(q08 c).getD .zero,n,e⟩=true∧q0f ⟨if a=[100,97,116,97] then 1 else 2,(q08 b).getD .zero,(q08 c).getD .zero,n,e⟩=t then some ⟨if a=[100,97,116,97] then 1 else 2,(q08 b).getD .zero,(q08 c).getD .zero,n,e⟩ else none:=by
 unfold q55
 simp only[h]
 rw[if_neg (by simp;omega)]
 rfl
theorem qgb {t:B} (h:70<t.length∨q0g ((q0a 32 t).length:Int) 4 5=false):q14 t=none:=by
 unfold q14
 rcases h with h|h
 ·rw[if_pos h]
 ·split
  ·rfl
  ·split
   ·rename_i he;rw[he] at h;simp[q0g] at h
   ·rename_i he;rw[he] at h;simp[q0g] at h
   ·rfl
def ic99:IC:=sR [oP 2 (.alloc 65 [i0,i0,i0,i0,i0,i0,s0]),oP 3 (.mv cF)] (sR [mV 12 0,oP 13 (.call 97 [.t 12,.c (.str [32])]),mV 4 13] (.seq (sR [mV 14 0,oP 15 (.lens (.t 14)),oP 16 (.bin .gtr (.t 15) (cI 70)),mV 17 16,gF 18 17 (.mv (.t 4)),gF 19 17 (.len (.t 18)),gF 20 17 (.call 65 [.t 19,cI 4,cI 5]),gF 21 17 (.un .not (.t 20)),pT 22 17 21] (cD 22 (sR [oP 23 (.build [i0,i0,i0,i0,i0,i0,s0] []),nP (.sto 7 (.t 2) (.t 23)),oP 3 (.mv cF)] .ret) .skip)) (sR [oP 24 (.build [i0,i0,i0,i0,i0,i0,s0] [(0,(1,cI 2))]),oP 5 (.alloc 65 [i0,i0,i0,i0,i0,i0,s0]),nP (.sto 7 (.t 5) (.t 24))] (.seq (sR [mV 25 4,oP 26 (.iad 1 (.t 25) (.c i0)),lD 27 1 26,oP 28 (.bin .eql (.t 27) (.c (.str [100,97,116,97])))] (cD 28 (.reg [fD 29 0 5,nP (.sto 1 (.t 29) (cI 1))]) .skip)) (sR [mV 31 4,oP 32 (.iad 1 (.t 31) (cI 1)),lD 33 1 32,oP 34 (.call 148 [.t 33]),mV 30 34,eX 35 30 0,eX 36 30 1,oP 6 (.alloc 63 [i0,i0]),nP (.sto 2 (.t 6) (.t 35)),mV 7 36] (sR [mV 38 4,oP 39 (.iad 1 (.t 38) (cI 2)),lD 40 1 39,oP 41 (.call 148 [.t 40]),mV 37 41,eX 42 37 0,eX 43 37 1,oP 8 (.alloc 63 [i0,i0]),nP (.sto 2 (.t 8) (.t 42)),mV 9 43] (sR [mV 45 4,oP 46 (.iad 1 (.t 45) (cI 3)),lD 47 1 46,oP 48 (.call 149 [.t 47]),mV 44 48,eX 49 44 0,eX 50 44 1,mV 10 49,mV 11 50] (.seq (.drw [0,0,0,1,9,27,59,127,255] [(0,lA 51 2 6),(1,lA 52 2 8),(2,mV 53 10),(3,fD 54 1 5),(4,nP (.sto 2 (.t 54) (.t 51))),(5,fD 55 3 5),(6,nP (.sto 2 (.t 55) (.t 52))),(7,fD 56 5 5),(8,nP (.sto 1 (.t 56) (.t 53)))]) (.seq (sR [mV 57 4,oP 58 (.len (.t 57)),oP 59 (.bin .eql (.t 58) (cI 5))] (cD 59 (.reg [mV 60 4,oP 61 (.iad 1 (.t 60) (cI 4)),lD 62 1 61,oP 63 (.call 150 [.t 62]),fD 64 6 5,nP (.sto 1 (.t 64) (.t 63))]) .skip)) (.seq (sR [mV 65 7,oP 66 (.un .not (.t 65)),mV 67 66,gF 68 67 (.mv (.t 9)),gF 69 67 (.un .not (.t 68)),pT 70 67 69,mV 71 70,gF 72 71 (.mv (.t 11)),gF 73 71 (.isn true (.t 72)),pT 74 71 73,mV 75 74,gF 76 75 (.ld 7 true (.t 5)),gF 77 75 (.call 73 [.t 76]),gF 78 75 (.un .not (.t 77)),pT 79 75 78,mV 80 79,gF 81 80 (.ld 7 true (.t 5)),gF 82 80 (.call 104 [.t 81]),gF 83 80 (.mv (.t 0)),gF 84 80 (.bin .neq (.t 82) (.t 83)),pT 85 80 84] (cD 85 (sR [oP 86 (.build [i0,i0,i0,i0,i0,i0,s0] []),nP (.sto 7 (.t 2) (.t 86)),oP 3 (.mv cF)] .ret) .skip)) (sR [lA 87 7 5,nP (.sto 7 (.t 2) (.t 87)),oP 3 (.mv cT)] .ret)))))))))))
theorem dg99:Dg Tryz.prog 99 Tryz.f99 ic99 [(.cell 2 7 true),(.t 3)]:=⟨Tryz.func99,by kernel_rfl,by kernel_rfl⟩
set_option maxHeartbeats 4000000 in
theorem c99 (t:B) (hl:t.length≤100000):FnR Tryz.prog G 99 [.str t] (.tup [.agg (Pk.row ((q14 t).getD .zero)),.bool (q14 t).isSome]):=by
 refine mF dg99 Tryz.ntmps99 ?_
 have fs:=c97 t 32 hl
 have hln:=q3i 32 t
 have hmem:=q3h 32 t
 have hbad:=qgb (t:=t)
 have hI:=λa ok=>qed (t:=t) (a:=a) (ok:=ok)
 have h4:=λa b c d h=>@qrh t a b c d h
 have h5:=λa b c d e h=>@qrj t a b c d e h
 generalize hws:q0a 32 t=ws at *
 have fw:=c65 ws.length 4 5
 simp only[ic99,go_sem]
 by_cases h70:(70:Int)<t.length
 ·rw[hbad (.inl (by omega))]
  with_reducible repeat' (first|refine br ?_ ?_<;>intro h e<;>(try simp only[e,go_sem,eq_true h70])<;>clear e|rw[q01 (by omega)]|refine sd ?_<;>try simp only[go_sem,eq_true h70]|(first|refine cr (fs ..) ?_|refine cr (fw ..) ?_)<;>try simp only[go_sem,eq_true h70]|fail)
  all_goals first|done|simp[Pk.zero,E.zero]
 have h70':¬70<t.length:=by omega
 cases hw:q0g (ws.length:Int) 4 5 with
 | false =>
   rw[hw] at fw
   rw[hbad (.inr hw)]
   with_reducible repeat' (first|refine br ?_ ?_<;>intro h e<;>(try simp only[e,go_sem,eq_false h70])<;>clear e|rw[q01 (by omega)]|refine sd ?_<;>try simp only[go_sem,eq_false h70]|(first|refine cr (fs ..) ?_|refine cr (fw ..) ?_)<;>try simp only[go_sem,eq_false h70]|fail)
   all_goals first|done|simp[Pk.zero,E.zero]
 | true =>
   rw[hw] at fw
   have hw:=M.within_iff.1 hw
   clear hbad
   rcases(show ws.length=4∨ws.length=5 by omega) with h|h
   ·obtain⟨w0,w1,w2,w3,rfl⟩:=qkd h
    have m1:=hmem w1 (by simp)
    have m2:=hmem w2 (by simp)
    have m3:=hmem w3 (by simp)
    have e1:=qyz w1 (by omega)
    have e2:=qyz w2 (by omega)
    replace h4:=h4 w0 w1 w2 w3 rfl
    unfold rdV at e1 e2
    have fw:FnR Tryz.prog G 65 [.int .i64 4,.int .i64 4,.int .i64 5] (.bool true):=c65 4 4 5
    generalize hb1:(q08 w1).isSome=b1 at *
    generalize hE1:(q08 w1).getD .zero=E1 at *
    generalize hb2:(q08 w2).isSome=b2 at *
    generalize hE2:(q08 w2).getD .zero=E2 at *
    by_cases hd:w0=[100,97,116,97]
    ·simp only[if_pos hd] at h4
     with_reducible repeat' (first|refine br ?_ ?_<;>intro h e<;>(try simp only[e,go_sem,eq_false h70,eq_true hd,q02,zC,zN,List.map_cons,List.map_nil])<;>clear e|rw[q01 (by omega)]|refine sd ?_<;>try simp only[go_sem,eq_false h70,eq_true hd,q02,zC,zN,List.map_cons,List.map_nil]|(first|refine cr (fs ..) ?_|refine cr (fw ..) ?_|refine cr (e1 ..) ?_|refine cr (e2 ..) ?_)<;>try simp only[go_sem,eq_false h70,eq_true hd,q02,zC,zN,List.map_cons,List.map_nil]|fail)
     refine q5b (qui w3 (by omega)) [] 48 0 (by simp only[go_sem];first|done|simp) (by simp) (by rintro _ _ ⟨rfl,_⟩;simp) (by intro i hi;omega) ?_
     rintro _ _ ⟨rfl,(⟨n,rfl,hn⟩|⟨n,rfl,hn⟩)⟩
     ·have hr:=hI n true (λk k0 k9 hk=>⟨hn k k0 (by omega) hk,rfl⟩)
      rw[h4 n true h70'] at hr
      rw[←hr]
      clear hr hI h4 h5 hn
      have fc:=c73 ⟨1,E1,E2,n,[]⟩ (by simp only;simp)
      have ft:=qmy ⟨1,E1,E2,n,[]⟩ (by simp only;simp)
      generalize q48 ⟨1,E1,E2,n,[]⟩=b3 at *
      generalize q0f ⟨1,E1,E2,n,[]⟩=pt at *
      simp only[go_sem]
      cases b1
      ·rw[if_neg (by simp)]
       with_reducible repeat' (first|refine br ?_ ?_<;>intro h e<;>(try simp only[e,go_sem,q02,zC,zN])<;>clear e|rw[q01 (by omega)]|refine sd ?_<;>try simp only[go_sem,q02,zC,zN]|(first|refine cr (fc ..) ?_|refine cr (ft ..) ?_)<;>try simp only[go_sem,q02,zC,zN]|fail)
       all_goals first|done|simp[Pk.zero,E.zero]
      cases b2
      ·rw[if_neg (by simp)]
       with_reducible repeat' (first|refine br ?_ ?_<;>intro h e<;>(try simp only[e,go_sem,q02,zC,zN])<;>clear e|rw[q01 (by omega)]|refine sd ?_<;>try simp only[go_sem,q02,zC,zN]|(first|refine cr (fc ..) ?_|refine cr (ft ..) ?_)<;>try simp only[go_sem,q02,zC,zN]|fail)
       all_goals first|done|simp[Pk.zero,E.zero]
      cases b3
      ·rw[if_neg (by simp)]
       with_reducible repeat' (first|refine br ?_ ?_<;>intro h e<;>(try simp only[e,go_sem,q02,zC,zN])<;>clear e|rw[q01 (by omega)]|refine sd ?_<;>try simp only[go_sem,q02,zC,zN]|(first|refine cr (fc ..) ?_|refine cr (ft ..) ?_)<;>try simp only[go_sem,q02,zC,zN]|fail)
       all_goals first|done|simp[Pk.zero,E.zero]
      by_cases hpt:pt=t
      ·rw[if_pos (by simp[hpt])]
       with_reducible repeat' (first|refine br ?_ ?_<;>intro h e<;>(try simp only[e,go_sem,q02,zC,zN,eq_true hpt])<;>clear e|rw[q01 (by omega)]|refine sd ?_<;>try simp only[go_sem,q02,zC,zN,eq_true hpt]|(first|refine cr (fc ..) ?_|refine cr (ft ..) ?_)<;>try simp only[go_sem,q02,zC,zN,eq_true hpt]|fail)
       all_goals first|done|simp[Pk.row]
      ·rw[if_neg (by simp[hpt])]
       with_reducible repeat' (first|refine br ?_ ?_<;>intro h e<;>(try simp only[e,go_sem,q02,zC,zN,eq_false hpt])<;>clear e|rw[q01 (by omega)]|refine sd ?_<;>try simp only[go_sem,q02,zC,zN,eq_false hpt]|(first|refine cr (fc ..) ?_|refine cr (ft ..) ?_)<;>try simp only[go_sem,q02,zC,zN,eq_false hpt]|fail)
       all_goals first|done|simp[Pk.zero,E.zero]
     ·have hr:=hI n false (λk k0 k9 hk=>absurd hk (hn k k0 (by omega)))
      rw[h4 n false h70'] at hr
      rw[←hr]
      clear hr hI h4 h5 hn
      have fc:=c73 ⟨1,E1,E2,n,[]⟩ (by simp only;simp)
      have ft:=qmy ⟨1,E1,E2,n,[]⟩ (by simp only;simp)
      generalize q48 ⟨1,E1,E2,n,[]⟩=b3 at *
      generalize q0f ⟨1,E1,E2,n,[]⟩=pt at *
      simp only[go_sem]
      cases b1
      ·rw[if_neg (by simp)]
       with_reducible repeat' (first|refine br ?_ ?_<;>intro h e<;>(try simp only[e,go_sem,q02,zC,zN])<;>clear e|rw[q01 (by omega)]|refine sd ?_<;>try simp only[go_sem,q02,zC,zN]|(first|refine cr (fc ..) ?_|refine cr (ft ..) ?_)<;>try simp only[go_sem,q02,zC,zN]|fail)
       all_goals first|done|simp[Pk.zero,E.zero]
      cases b2
      ·rw[if_neg (by simp)]
       with_reducible repeat' (first|refine br ?_ ?_<;>intro h e<;>(try simp only[e,go_sem,q02,zC,zN])<;>clear e|rw[q01 (by omega)]|refine sd ?_<;>try simp only[go_sem,q02,zC,zN]|(first|refine cr (fc ..) ?_|refine cr (ft ..) ?_)<;>try simp only[go_sem,q02,zC,zN]|fail)
       all_goals first|done|simp[Pk.zero,E.zero]
      rw[if_neg (by simp)]
      with_reducible repeat' (first|refine br ?_ ?_<;>intro h e<;>(try simp only[e,go_sem,q02,zC,zN])<;>clear e|rw[q01 (by omega)]|refine sd ?_<;>try simp only[go_sem,q02,zC,zN]|(first|refine cr (fc ..) ?_|refine cr (ft ..) ?_)<;>try simp only[go_sem,q02,zC,zN]|fail)
      all_goals first|done|simp[Pk.zero,E.zero]
    ·simp only[if_neg hd] at h4
     with_reducible repeat' (first|refine br ?_ ?_<;>intro h e<;>(try simp only[e,go_sem,eq_false h70,eq_false hd,q02,zC,zN,List.map_cons,List.map_nil])<;>clear e|rw[q01 (by omega)]|refine sd ?_<;>try simp only[go_sem,eq_false h70,eq_false hd,q02,zC,zN,List.map_cons,List.map_nil]|(first|refine cr (fs ..) ?_|refine cr (fw ..) ?_|refine cr (e1 ..) ?_|refine cr (e2 ..) ?_)<;>try simp only[go_sem,eq_false h70,eq_false hd,q02,zC,zN,List.map_cons,List.map_nil]|fail)
     refine q5b (qui w3 (by omega)) [] 48 0 (by simp only[go_sem];first|done|simp) (by simp) (by rintro _ _ ⟨rfl,_⟩;simp) (by intro i hi;omega) ?_
     rintro _ _ ⟨rfl,(⟨n,rfl,hn⟩|⟨n,rfl,hn⟩)⟩
     ·have hr:=hI n true (λk k0 k9 hk=>⟨hn k k0 (by omega) hk,rfl⟩)
      rw[h4 n true h70'] at hr
      rw[←hr]
      clear hr hI h4 h5 hn
      have fc:=c73 ⟨2,E1,E2,n,[]⟩ (by simp only;simp)
      have ft:=qmy ⟨2,E1,E2,n,[]⟩ (by simp only;simp)
      generalize q48 ⟨2,E1,E2,n,[]⟩=b3 at *
      generalize q0f ⟨2,E1,E2,n,[]⟩=pt at *
      simp only[go_sem]
      cases b1
      ·rw[if_neg (by simp)]
       with_reducible repeat' (first|refine br ?_ ?_<;>intro h e<;>(try simp only[e,go_sem,q02,zC,zN])<;>clear e|rw[q01 (by omega)]|refine sd ?_<;>try simp only[go_sem,q02,zC,zN]|(first|refine cr (fc ..) ?_|refine cr (ft ..) ?_)<;>try simp only[go_sem,q02,zC,zN]|fail)
       all_goals first|done|simp[Pk.zero,E.zero]
      cases b2
      ·rw[if_neg (by simp)]
       with_reducible repeat' (first|refine br ?_ ?_<;>intro h e<;>(try simp only[e,go_sem,q02,zC,zN])<;>clear e|rw[q01 (by omega)]|refine sd ?_<;>try simp only[go_sem,q02,zC,zN]|(first|refine cr (fc ..) ?_|refine cr (ft ..) ?_)<;>try simp only[go_sem,q02,zC,zN]|fail)
       all_goals first|done|simp[Pk.zero,E.zero]
      cases b3
      ·rw[if_neg (by simp)]
       with_reducible repeat' (first|refine br ?_ ?_<;>intro h e<;>(try simp only[e,go_sem,q02,zC,zN])<;>clear e|rw[q01 (by omega)]|refine sd ?_<;>try simp only[go_sem,q02,zC,zN]|(first|refine cr (fc ..) ?_|refine cr (ft ..) ?_)<;>try simp only[go_sem,q02,zC,zN]|fail)
       all_goals first|done|simp[Pk.zero,E.zero]
      by_cases hpt:pt=t
      ·rw[if_pos (by simp[hpt])]
       with_reducible repeat' (first|refine br ?_ ?_<;>intro h e<;>(try simp only[e,go_sem,q02,zC,zN,eq_true hpt])<;>clear e|rw[q01 (by omega)]|refine sd ?_<;>try simp only[go_sem,q02,zC,zN,eq_true hpt]|(first|refine cr (fc ..) ?_|refine cr (ft ..) ?_)<;>try simp only[go_sem,q02,zC,zN,eq_true hpt]|fail)
       all_goals first|done|simp[Pk.row]
      ·rw[if_neg (by simp[hpt])]
       with_reducible repeat' (first|refine br ?_ ?_<;>intro h e<;>(try simp only[e,go_sem,q02,zC,zN,eq_false hpt])<;>clear e|rw[q01 (by omega)]|refine sd ?_<;>try simp only[go_sem,q02,zC,zN,eq_false hpt]|(first|refine cr (fc ..) ?_|refine cr (ft ..) ?_)<;>try simp only[go_sem,q02,zC,zN,eq_false hpt]|fail)
       all_goals first|done|simp[Pk.zero,E.zero]
     ·have hr:=hI n false (λk k0 k9 hk=>absurd hk (hn k k0 (by omega)))
      rw[h4 n false h70'] at hr
      rw[←hr]
      clear hr hI h4 h5 hn
      have fc:=c73 ⟨2,E1,E2,n,[]⟩ (by simp only;simp)
      have ft:=qmy ⟨2,E1,E2,n,[]⟩ (by simp only;simp)
      generalize q48 ⟨2,E1,E2,n,[]⟩=b3 at *
      generalize q0f ⟨2,E1,E2,n,[]⟩=pt at *
      simp only[go_sem]
      cases b1
      ·rw[if_neg (by simp)]
       with_reducible repeat' (first|refine br ?_ ?_<;>intro h e<;>(try simp only[e,go_sem,q02,zC,zN])<;>clear e|rw[q01 (by omega)]|refine sd ?_<;>try simp only[go_sem,q02,zC,zN]|(first|refine cr (fc ..) ?_|refine cr (ft ..) ?_)<;>try simp only[go_sem,q02,zC,zN]|fail)
       all_goals first|done|simp[Pk.zero,E.zero]
      cases b2
      ·rw[if_neg (by simp)]
       with_reducible repeat' (first|refine br ?_ ?_<;>intro h e<;>(try simp only[e,go_sem,q02,zC,zN])<;>clear e|rw[q01 (by omega)]|refine sd ?_<;>try simp only[go_sem,q02,zC,zN]|(first|refine cr (fc ..) ?_|refine cr (ft ..) ?_)<;>try simp only[go_sem,q02,zC,zN]|fail)
       all_goals first|done|simp[Pk.zero,E.zero]
      rw[if_neg (by simp)]
      with_reducible repeat' (first|refine br ?_ ?_<;>intro h e<;>(try simp only[e,go_sem,q02,zC,zN])<;>clear e|rw[q01 (by omega)]|refine sd ?_<;>try simp only[go_sem,q02,zC,zN]|(first|refine cr (fc ..) ?_|refine cr (ft ..) ?_)<;>try simp only[go_sem,q02,zC,zN]|fail)
      all_goals first|done|simp[Pk.zero,E.zero]
   ·obtain⟨w0,w1,w2,w3,w4,rfl⟩:=qir h
    have m1:=hmem w1 (by simp)
    have m2:=hmem w2 (by simp)
    have m3:=hmem w3 (by simp)
    have m4:=hmem w4 (by simp)
    have e1:=qyz w1 (by omega)
    have e2:=qyz w2 (by omega)
    replace h5:=h5 w0 w1 w2 w3 w4 rfl
    unfold rdV at e1 e2
    have fw:FnR Tryz.prog G 65 [.int .i64 5,.int .i64 4,.int .i64 5] (.bool true):=c65 5 4 5
    generalize hb1:(q08 w1).isSome=b1 at *
    generalize hE1:(q08 w1).getD .zero=E1 at *
    generalize hb2:(q08 w2).isSome=b2 at *
    generalize hE2:(q08 w2).getD .zero=E2 at *
    by_cases hd:w0=[100,97,116,97]
    ·simp only[if_pos hd] at h5
     with_reducible repeat' (first|refine br ?_ ?_<;>intro h e<;>(try simp only[e,go_sem,eq_false h70,eq_true hd,q02,zC,zN,List.map_cons,List.map_nil])<;>clear e|rw[q01 (by omega)]|refine sd ?_<;>try simp only[go_sem,eq_false h70,eq_true hd,q02,zC,zN,List.map_cons,List.map_nil]|(first|refine cr (fs ..) ?_|refine cr (fw ..) ?_|refine cr (e1 ..) ?_|refine cr (e2 ..) ?_)<;>try simp only[go_sem,eq_false h70,eq_true hd,q02,zC,zN,List.map_cons,List.map_nil]|fail)
     refine q5b (qui w3 (by omega)) [] 48 0 (by simp only[go_sem];first|done|simp) (by simp) (by rintro _ _ ⟨rfl,_⟩;simp) (by intro i hi;omega) ?_
     rintro _ _ ⟨rfl,(⟨n,rfl,hn⟩|⟨n,rfl,hn⟩)⟩
     ·have hr:=hI n true (λk k0 k9 hk=>⟨hn k k0 (by omega) hk,rfl⟩)
      rw[h5 n true h70'] at hr
      rw[←hr]
      clear hr hI h4 h5 hn
      have fc:=c73 ⟨1,E1,E2,n,w4⟩ (by simp only;omega)
      have ft:=qmy ⟨1,E1,E2,n,w4⟩ (by simp only;omega)
      generalize q48 ⟨1,E1,E2,n,w4⟩=b3 at *
      generalize q0f ⟨1,E1,E2,n,w4⟩=pt at *
      simp only[go_sem]
      cases b1
      ·rw[if_neg (by simp)]
       with_reducible repeat' (first|refine br ?_ ?_<;>intro h e<;>(try simp only[e,go_sem,q02,zC,zN])<;>clear e|rw[q01 (by omega)]|refine sd ?_<;>try simp only[go_sem,q02,zC,zN]|(first|refine cr (qcy ..) ?_|refine cr (fc ..) ?_|refine cr (ft ..) ?_)<;>try simp only[go_sem,q02,zC,zN]|fail)
       all_goals first|done|simp[Pk.zero,E.zero]
      cases b2
      ·rw[if_neg (by simp)]
       with_reducible repeat' (first|refine br ?_ ?_<;>intro h e<;>(try simp only[e,go_sem,q02,zC,zN])<;>clear e|rw[q01 (by omega)]|refine sd ?_<;>try simp only[go_sem,q02,zC,zN]|(first|refine cr (qcy ..) ?_|refine cr (fc ..) ?_|refine cr (ft ..) ?_)<;>try simp only[go_sem,q02,zC,zN]|fail)
       all_goals first|done|simp[Pk.zero,E.zero]
      cases b3
      ·rw[if_neg (by simp)]
       with_reducible repeat' (first|refine br ?_ ?_<;>intro h e<;>(try simp only[e,go_sem,q02,zC,zN])<;>clear e|rw[q01 (by omega)]|refine sd ?_<;>try simp only[go_sem,q02,zC,zN]|(first|refine cr (qcy ..) ?_|refine cr (fc ..) ?_|refine cr (ft ..) ?_)<;>try simp only[go_sem,q02,zC,zN]|fail)
       all_goals first|done|simp[Pk.zero,E.zero]
      by_cases hpt:pt=t
      ·rw[if_pos (by simp[hpt])]
       with_reducible repeat' (first|refine br ?_ ?_<;>intro h e<;>(try simp only[e,go_sem,q02,zC,zN,eq_true hpt])<;>clear e|rw[q01 (by omega)]|refine sd ?_<;>try simp only[go_sem,q02,zC,zN,eq_true hpt]|(first|refine cr (qcy ..) ?_|refine cr (fc ..) ?_|refine cr (ft ..) ?_)<;>try simp only[go_sem,q02,zC,zN,eq_true hpt]|fail)
       all_goals first|done|simp[Pk.row]
      ·rw[if_neg (by simp[hpt])]
       with_reducible repeat' (first|refine br ?_ ?_<;>intro h e<;>(try simp only[e,go_sem,q02,zC,zN,eq_false hpt])<;>clear e|rw[q01 (by omega)]|refine sd ?_<;>try simp only[go_sem,q02,zC,zN,eq_false hpt]|(first|refine cr (qcy ..) ?_|refine cr (fc ..) ?_|refine cr (ft ..) ?_)<;>try simp only[go_sem,q02,zC,zN,eq_false hpt]|fail)
       all_goals first|done|simp[Pk.zero,E.zero]
     ·have hr:=hI n false (λk k0 k9 hk=>absurd hk (hn k k0 (by omega)))
      rw[h5 n false h70'] at hr
      rw[←hr]
      clear hr hI h4 h5 hn
      have fc:=c73 ⟨1,E1,E2,n,w4⟩ (by simp only;omega)
      have ft:=qmy ⟨1,E1,E2,n,w4⟩ (by simp only;omega)
      generalize q48 ⟨1,E1,E2,n,w4⟩=b3 at *
      generalize q0f ⟨1,E1,E2,n,w4⟩=pt at *
      simp only[go_sem]
      cases b1
      ·rw[if_neg (by simp)]
       with_reducible repeat' (first|refine br ?_ ?_<;>intro h e<;>(try simp only[e,go_sem,q02,zC,zN])<;>clear e|rw[q01 (by omega)]|refine sd ?_<;>try simp only[go_sem,q02,zC,zN]|(first|refine cr (qcy ..) ?_|refine cr (fc ..) ?_|refine cr (ft ..) ?_)<;>try simp only[go_sem,q02,zC,zN]|fail)
       all_goals first|done|simp[Pk.zero,E.zero]
      cases b2
      ·rw[if_neg (by simp)]
       with_reducible repeat' (first|refine br ?_ ?_<;>intro h e<;>(try simp only[e,go_sem,q02,zC,zN])<;>clear e|rw[q01 (by omega)]|refine sd ?_<;>try simp only[go_sem,q02,zC,zN]|(first|refine cr (qcy ..) ?_|refine cr (fc ..) ?_|refine cr (ft ..) ?_)<;>try simp only[go_sem,q02,zC,zN]|fail)
       all_goals first|done|simp[Pk.zero,E.zero]
      rw[if_neg (by simp)]
      with_reducible repeat' (first|refine br ?_ ?_<;>intro h e<;>(try simp only[e,go_sem,q02,zC,zN])<;>clear e|rw[q01 (by omega)]|refine sd ?_<;>try simp only[go_sem,q02,zC,zN]|(first|refine cr (qcy ..) ?_|refine cr (fc ..) ?_|refine cr (ft ..) ?_)<;>try simp only[go_sem,q02,zC,zN]|fail)
      all_goals first|done|simp[Pk.zero,E.zero]
    ·simp only[if_neg hd] at h5
     with_reducible repeat' (first|refine br ?_ ?_<;>intro h e<;>(try simp only[e,go_sem,eq_false h70,eq_false hd,q02,zC,zN,List.map_cons,List.map_nil])<;>clear e|rw[q01 (by omega)]|refine sd ?_<;>try simp only[go_sem,eq_false h70,eq_false hd,q02,zC,zN,List.map_cons,List.map_nil]|(first|refine cr (fs ..) ?_|refine cr (fw ..) ?_|refine cr (e1 ..) ?_|refine cr (e2 ..) ?_)<;>try simp only[go_sem,eq_false h70,eq_false hd,q02,zC,zN,List.map_cons,List.map_nil]|fail)
     refine q5b (qui w3 (by omega)) [] 48 0 (by simp only[go_sem];first|done|simp) (by simp) (by rintro _ _ ⟨rfl,_⟩;simp) (by intro i hi;omega) ?_
     rintro _ _ ⟨rfl,(⟨n,rfl,hn⟩|⟨n,rfl,hn⟩)⟩
     ·have hr:=hI n true (λk k0 k9 hk=>⟨hn k k0 (by omega) hk,rfl⟩)
      rw[h5 n true h70'] at hr
      rw[←hr]
      clear hr hI h4 h5 hn
      have fc:=c73 ⟨2,E1,E2,n,w4⟩ (by simp only;omega)
      have ft:=qmy ⟨2,E1,E2,n,w4⟩ (by simp only;omega)
      generalize q48 ⟨2,E1,E2,n,w4⟩=b3 at *
      generalize q0f ⟨2,E1,E2,n,w4⟩=pt at *
      simp only[go_sem]
      cases b1
      ·rw[if_neg (by simp)]
       with_reducible repeat' (first|refine br ?_ ?_<;>intro h e<;>(try simp only[e,go_sem,q02,zC,zN])<;>clear e|rw[q01 (by omega)]|refine sd ?_<;>try simp only[go_sem,q02,zC,zN]|(first|refine cr (qcy ..) ?_|refine cr (fc ..) ?_|refine cr (ft ..) ?_)<;>try simp only[go_sem,q02,zC,zN]|fail)
       all_goals first|done|simp[Pk.zero,E.zero]
      cases b2
      ·rw[if_neg (by simp)]
       with_reducible repeat' (first|refine br ?_ ?_<;>intro h e<;>(try simp only[e,go_sem,q02,zC,zN])<;>clear e|rw[q01 (by omega)]|refine sd ?_<;>try simp only[go_sem,q02,zC,zN]|(first|refine cr (qcy ..) ?_|refine cr (fc ..) ?_|refine cr (ft ..) ?_)<;>try simp only[go_sem,q02,zC,zN]|fail)
       all_goals first|done|simp[Pk.zero,E.zero]
      cases b3
      ·rw[if_neg (by simp)]
       with_reducible repeat' (first|refine br ?_ ?_<;>intro h e<;>(try simp only[e,go_sem,q02,zC,zN])<;>clear e|rw[q01 (by omega)]|refine sd ?_<;>try simp only[go_sem,q02,zC,zN]|(first|refine cr (qcy ..) ?_|refine cr (fc ..) ?_|refine cr (ft ..) ?_)<;>try simp only[go_sem,q02,zC,zN]|fail)
       all_goals first|done|simp[Pk.zero,E.zero]
      by_cases hpt:pt=t
      ·rw[if_pos (by simp[hpt])]
       with_reducible repeat' (first|refine br ?_ ?_<;>intro h e<;>(try simp only[e,go_sem,q02,zC,zN,eq_true hpt])<;>clear e|rw[q01 (by omega)]|refine sd ?_<;>try simp only[go_sem,q02,zC,zN,eq_true hpt]|(first|refine cr (qcy ..) ?_|refine cr (fc ..) ?_|refine cr (ft ..) ?_)<;>try simp only[go_sem,q02,zC,zN,eq_true hpt]|fail)
       all_goals first|done|simp[Pk.row]
      ·rw[if_neg (by simp[hpt])]
       with_reducible repeat' (first|refine br ?_ ?_<;>intro h e<;>(try simp only[e,go_sem,q02,zC,zN,eq_false hpt])<;>clear e|rw[q01 (by omega)]|refine sd ?_<;>try simp only[go_sem,q02,zC,zN,eq_false hpt]|(first|refine cr (qcy ..) ?_|refine cr (fc ..) ?_|refine cr (ft ..) ?_)<;>try simp only[go_sem,q02,zC,zN,eq_false hpt]|fail)
       all_goals first|done|simp[Pk.zero,E.zero]
     ·have hr:=hI n false (λk k0 k9 hk=>absurd hk (hn k k0 (by omega)))
      rw[h5 n false h70'] at hr
      rw[←hr]
      clear hr hI h4 h5 hn
      have fc:=c73 ⟨2,E1,E2,n,w4⟩ (by simp only;omega)
      have ft:=qmy ⟨2,E1,E2,n,w4⟩ (by simp only;omega)
      generalize q48 ⟨2,E1,E2,n,w4⟩=b3 at *
      generalize q0f ⟨2,E1,E2,n,w4⟩=pt at *
      simp only[go_sem]
      cases b1
      ·rw[if_neg (by simp)]
       with_reducible repeat' (first|refine br ?_ ?_<;>intro h e<;>(try simp only[e,go_sem,q02,zC,zN])<;>clear e|rw[q01 (by omega)]|refine sd ?_<;>try simp only[go_sem,q02,zC,zN]|(first|refine cr (qcy ..) ?_|refine cr (fc ..) ?_|refine cr (ft ..) ?_)<;>try simp only[go_sem,q02,zC,zN]|fail)
       all_goals first|done|simp[Pk.zero,E.zero]
      cases b2
      ·rw[if_neg (by simp)]
       with_reducible repeat' (first|refine br ?_ ?_<;>intro h e<;>(try simp only[e,go_sem,q02,zC,zN])<;>clear e|rw[q01 (by omega)]|refine sd ?_<;>try simp only[go_sem,q02,zC,zN]|(first|refine cr (qcy ..) ?_|refine cr (fc ..) ?_|refine cr (ft ..) ?_)<;>try simp only[go_sem,q02,zC,zN]|fail)
       all_goals first|done|simp[Pk.zero,E.zero]
      rw[if_neg (by simp)]
      with_reducible repeat' (first|refine br ?_ ?_<;>intro h e<;>(try simp only[e,go_sem,q02,zC,zN])<;>clear e|rw[q01 (by omega)]|refine sd ?_<;>try simp only[go_sem,q02,zC,zN]|(first|refine cr (qcy ..) ?_|refine cr (fc ..) ?_|refine cr (ft ..) ?_)<;>try simp only[go_sem,q02,zC,zN]|fail)
      all_goals first|done|simp[Pk.zero,E.zero]
theorem qve {t:B} (h:4≤(q0a 32 t).length):t≠[]:=λh0=>by
 subst h0
 simp[q0a] at h
def qvd:IC:=sR [oP 2 (.alloc 65 [i0,i0,i0,i0,i0,i0,s0]),oP 3 (.mv cF)] (.seq (sR [mV 6 0,oP 7 (.lens (.t 6)),oP 8 (.bin .gtr (.t 7) (cI 70))] (cD 8 (sR [oP 9 (.build [i0,i0,i0,i0,i0,i0,s0] []),nP (.sto 7 (.t 2) (.t 9)),oP 3 (.mv cF)] .ret) .skip)) (sR [mV 10 0,oP 11 (.call 51 [.t 10,.c (.int .u8 32)]),mV 4 11] (.seq (sR [mV 12 4,oP 13 (.len (.t 12)),oP 14 (.call 114 [.t 13,cI 4,cI 5]),oP 15 (.un .not (.t 14))] (cD 15 (sR [oP 16 (.build [i0,i0,i0,i0,i0,i0,s0] []),nP (.sto 7 (.t 2) (.t 16)),oP 3 (.mv cF)] .ret) .skip)) (sR [mV 17 4,oP 18 (.iad 1 (.t 17) (cI 3)),lD 19 1 18,oP 20 (.call 155 [.t 19]),oP 21 (.build [i0,i0,i0,i0,i0,i0,s0] [(0,(1,cI 2)),(5,(1,.t 20))]),oP 5 (.alloc 65 [i0,i0,i0,i0,i0,i0,s0]),nP (.sto 7 (.t 5) (.t 21))] (sR [mV 23 4,oP 24 (.iad 1 (.t 23) (cI 1)),lD 25 1 24,oP 26 (.call 156 [.t 25]),mV 22 26,eX 27 22 0,eX 28 22 1,fD 29 1 5,nP (.sto 2 (.t 29) (.t 27))] (sR [mV 31 4,oP 32 (.iad 1 (.t 31) (cI 2)),lD 33 1 32,oP 34 (.call 156 [.t 33]),mV 30 34,eX 35 30 0,eX 36 30 1,fD 37 3 5,nP (.sto 2 (.t 37) (.t 35))] (.seq (sR [mV 38 4,oP 39 (.len (.t 38)),oP 40 (.bin .eql (.t 39) (cI 5))] (cD 40 (sR [fD 41 0 5,nP (.sto 1 (.t 41) (cI 1))] (.reg [mV 42 4,oP 43 (.iad 1 (.t 42) (cI 4)),lD 44 1 43,fD 45 6 5,nP (.sto 1 (.t 45) (.t 44))])) .skip)) (.seq (sR [lA 46 7 5,oP 47 (.call 90 [.t 46]),mV 48 0,bN 49 .neq 47 48,mV 50 49,gF 51 50 (.mv (.t 0)),gF 52 50 (.bin .eql (.t 51) (.c s0)),pT 53 50 52] (cD 53 (sR [oP 54 (.build [i0,i0,i0,i0,i0,i0,s0] []),nP (.sto 7 (.t 2) (.t 54)),oP 3 (.mv cF)] .ret) .skip)) (sR [lA 55 7 5,nP (.sto 7 (.t 2) (.t 55)),oP 3 (.mv cT)] .ret)))))))))
theorem dg107:Dg Tryz.prog 107 Tryz.f107 qvd [(.cell 2 7 true),(.t 3)]:=⟨Tryz.func107,by kernel_rfl,by kernel_rfl⟩
set_option maxHeartbeats 4000000 in
theorem c107 (t:B) (hl:t.length≤100000):FnR Tryz.prog G 107 [.str t] (.tup [.agg (Pk.row ((q14 t).getD .zero)),.bool (q14 t).isSome]):=by
 refine mF dg107 Tryz.ntmps107 ?_
 have fs:=c51 t 32 hl
 have hln:=q3i 32 t
 have hmem:=q3h 32 t
 have hbad:=qgb (t:=t)
 have hne:=qve (t:=t)
 have hdef:¬70<t.length→q14 t=match q0a 32 t with
  | [_,f,o,n]=>if q0f ⟨2,(q08 f).getD .zero,(q08 o).getD .zero,q9l n,[]⟩=t then some ⟨2,(q08 f).getD .zero,(q08 o).getD .zero,q9l n,[]⟩ else none
  | [_,f,o,n,x]=>if q0f ⟨1,(q08 f).getD .zero,(q08 o).getD .zero,q9l n,x⟩=t then some ⟨1,(q08 f).getD .zero,(q08 o).getD .zero,q9l n,x⟩ else none
  | _=>none:=λh=>by unfold q14;rw[if_neg h];rfl
 generalize hws:q0a 32 t=ws at *
 have fw:=qc3 ws.length 4 5
 simp only[show((UInt8.toNat 32:Nat):Int)=32 from rfl] at fs
 simp only[qvd,go_sem]
 by_cases h70:(70:Int)<t.length
 ·rw[hbad (.inl (by omega))]
  simp only[eq_true h70,go_sem]
  with_reducible repeat' (first|refine br ?_ ?_<;>intro h e<;>(try simp only[e,go_sem,eq_true h70])<;>clear e|rw[q01 (by omega)]|refine sd ?_<;>try simp only[go_sem,eq_true h70]|fail)
  all_goals first|done|simp[Pk.zero,E.zero]
 have h70':¬70<t.length:=by omega
 replace hdef:=hdef h70'
 simp only[eq_false h70,go_sem]
 cases hw:q0g (ws.length:Int) 4 5 with
 | false =>
   rw[hw] at fw
   rw[hbad (.inr hw)]
   with_reducible repeat' (first|refine br ?_ ?_<;>intro h e<;>(try simp only[e,go_sem])<;>clear e|rw[q01 (by omega)]|refine sd ?_<;>try simp only[go_sem]|(first|refine cr (fs ..) ?_|refine cr (fw ..) ?_)<;>try simp only[go_sem]|fail)
   all_goals first|done|simp[Pk.zero,E.zero]
 | true =>
   rw[hw] at fw
   have hw:=M.within_iff.1 hw
   replace hne:=hne (by omega)
   have hne':(t=[])=False:=eq_false hne
   clear hbad
   rcases(show ws.length=4∨ws.length=5 by omega) with h|h
   ·obtain⟨w0,w1,w2,w3,rfl⟩:=qkd h
    have m1:=hmem w1 (by simp)
    have m2:=hmem w2 (by simp)
    have m3:=hmem w3 (by simp)
    have e1:=j1c w1 (by omega)
    have e2:=j1c w2 (by omega)
    have e3:=c155 w3 (by omega)
    simp only at hdef
    rw[hdef]
    unfold rdV at e1 e2
    have fw:FnR Tryz.prog G 114 [.int .i64 4,.int .i64 4,.int .i64 5] (.bool true):=qc3 4 4 5
    generalize hE1:(q08 w1).getD .zero=E1 at *
    generalize hE2:(q08 w2).getD .zero=E2 at *
    generalize q9l w3=n at *
    have ft:=c90 ⟨2,E1,E2,n,[]⟩ (by simp only;simp)
    generalize q0f ⟨2,E1,E2,n,[]⟩=pt at *
    by_cases hpt:pt=t
    ·rw[if_pos hpt]
     with_reducible repeat' (first|refine br ?_ ?_<;>intro h e<;>(try simp only[e,go_sem,List.map_cons,List.map_nil,q02,zC,zN,eq_true hpt,hne'])<;>clear e|rw[q01 (by omega)]|refine sd ?_<;>try simp only[go_sem,List.map_cons,List.map_nil,q02,zC,zN,eq_true hpt,hne']|(first|refine cr (fs ..) ?_|refine cr (fw ..) ?_|refine cr (e1 ..) ?_|refine cr (e2 ..) ?_|refine cr (e3 ..) ?_|refine cr (ft ..) ?_)<;>try simp only[go_sem,List.map_cons,List.map_nil,q02,zC,zN,eq_true hpt,hne']|fail)
     all_goals first|done|simp[Pk.row]
    ·rw[if_neg hpt]
     with_reducible repeat' (first|refine br ?_ ?_<;>intro h e<;>(try simp only[e,go_sem,List.map_cons,List.map_nil,q02,zC,zN,eq_false hpt,hne'])<;>clear e|rw[q01 (by omega)]|refine sd ?_<;>try simp only[go_sem,List.map_cons,List.map_nil,q02,zC,zN,eq_false hpt,hne']|(first|refine cr (fs ..) ?_|refine cr (fw ..) ?_|refine cr (e1 ..) ?_|refine cr (e2 ..) ?_|refine cr (e3 ..) ?_|refine cr (ft ..) ?_)<;>try simp only[go_sem,List.map_cons,List.map_nil,q02,zC,zN,eq_false hpt,hne']|fail)
     all_goals first|done|simp[Pk.zero,E.zero]
   ·obtain⟨w0,w1,w2,w3,w4,rfl⟩:=qir h
    have m1:=hmem w1 (by simp)
    have m2:=hmem w2 (by simp)
    have m3:=hmem w3 (by simp)
    have m4:=hmem w4 (by simp)
    have e1:=j1c w1 (by omega)
    have e2:=j1c w2 (by omega)
    have e3:=c155 w3 (by omega)
    simp only at hdef
    rw[hdef]
    unfold rdV at e1 e2
    have fw:FnR Tryz.prog G 114 [.int .i64 5,.int .i64 4,.int .i64 5] (.bool true):=qc3 5 4 5
    generalize hE1:(q08 w1).getD .zero=E1 at *
    generalize hE2:(q08 w2).getD .zero=E2 at *
    generalize q9l w3=n at *
    have ft:=c90 ⟨1,E1,E2,n,w4⟩ (by simp only;omega)
    generalize q0f ⟨1,E1,E2,n,w4⟩=pt at *
    by_cases hpt:pt=t
    ·rw[if_pos hpt]
     with_reducible repeat' (first|refine br ?_ ?_<;>intro h e<;>(try simp only[e,go_sem,List.map_cons,List.map_nil,q02,zC,zN,eq_true hpt,hne'])<;>clear e|rw[q01 (by omega)]|refine sd ?_<;>try simp only[go_sem,List.map_cons,List.map_nil,q02,zC,zN,eq_true hpt,hne']|(first|refine cr (fs ..) ?_|refine cr (fw ..) ?_|refine cr (e1 ..) ?_|refine cr (e2 ..) ?_|refine cr (e3 ..) ?_|refine cr (ft ..) ?_)<;>try simp only[go_sem,List.map_cons,List.map_nil,q02,zC,zN,eq_true hpt,hne']|fail)
     all_goals first|done|simp[Pk.row]
    ·rw[if_neg hpt]
     with_reducible repeat' (first|refine br ?_ ?_<;>intro h e<;>(try simp only[e,go_sem,List.map_cons,List.map_nil,q02,zC,zN,eq_false hpt,hne'])<;>clear e|rw[q01 (by omega)]|refine sd ?_<;>try simp only[go_sem,List.map_cons,List.map_nil,q02,zC,zN,eq_false hpt,hne']|(first|refine cr (fs ..) ?_|refine cr (fw ..) ?_|refine cr (e1 ..) ?_|refine cr (e2 ..) ?_|refine cr (e3 ..) ?_|refine cr (ft ..) ?_)<;>try simp only[go_sem,List.map_cons,List.map_nil,q02,zC,zN,eq_false hpt,hne']|fail)
     all_goals first|done|simp[Pk.zero,E.zero]
end Go.Proofs.YtpnekhiejecipaaGreatDoor.W
