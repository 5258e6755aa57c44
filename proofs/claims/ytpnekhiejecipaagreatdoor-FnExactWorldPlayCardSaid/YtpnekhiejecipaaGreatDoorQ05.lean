/- Part 5 of the proof: the walk over values, the plain model, contracts of the functions of the program. -/
import Derived.Test.YtpnekhiejecipaaGreatDoorQ04
import Derived.Test.YtpnekhiejecipaaGreatDoorQ03
import Derived.Test.YtpnekhiejecipaaGreatDoorQ02
set_option linter.all false
namespace Go.Proofs.YtpnekhiejecipaaGreatDoor.W
open Go Go.RowKit Go.Proofs Go.Proofs.YtpnekhiejecipaaGreatDoor.VL Go.Proofs.YtpnekhiejecipaaGreatDoor.M
attribute [local go_sem] qvd mkl_i q2w
theorem q4b {α:Type} (A R:List α) (x d:α):(A++x::R).getD A.length d=x:=by simp[List.getD]
theorem q4h {α:Type} (A R:List α) (x y:α):(A++x::R).set A.length y=A++y::R:=by simp[List.set_append]
def ic61:IC:=sR [oP 1 (.box 53 (.t 0)),oP 2 (.alloc 63 [i0,i0])] (sR [oP 3 (.alloc 63 [i0,i0])] (sR [fD 4 0 1,lD 5 1 4,fD 6 0 3,nP (.sto 1 (.t 6) (.t 5))] (sR [fD 7 1 1,lD 8 1 7,fD 9 1 3,nP (.sto 1 (.t 9) (.t 8))] (sR [lA 10 2 3,nP (.sto 2 (.t 2) (.t 10))] .ret))))
theorem dg61:Dg Tryz.prog 61 Tryz.f61 ic61 [(.cell 2 2 true)]:=⟨Tryz.func61,by kernel_rfl,by kernel_rfl⟩
theorem c61 (e:E):FnR Tryz.prog G 61 [.agg [.int .i64 e.a,.int .i64 e.p]] (.agg [.int .i64 e.a,.int .i64 e.p]):=by
 refine mF dg61 Tryz.ntmps61 ?_
 simp only[ic61,go_sem]
 with_reducible repeat' (first|refine br ?_ ?_<;>intro h e<;>(try simp only[e,go_sem])<;>clear e|rw[q01 (by omega)]|refine sd ?_<;>try simp only[go_sem]|fail)
def ic62:IC:=sR [oP 1 (.box 58 (.t 0)),oP 2 (.alloc 65 [i0,i0,i0,i0,i0,i0,s0])] (sR [oP 3 (.alloc 65 [i0,i0,i0,i0,i0,i0,s0])] (sR [fD 4 0 1,lD 5 1 4,fD 6 0 3,nP (.sto 1 (.t 6) (.t 5))] (sR [fD 7 1 1,lA 8 2 7,oP 9 (.call 61 [.t 8]),fD 10 1 3,nP (.sto 2 (.t 10) (.t 9))] (sR [fD 11 3 1,lA 12 2 11,oP 13 (.call 61 [.t 12]),fD 14 3 3,nP (.sto 2 (.t 14) (.t 13))] (sR [fD 15 5 1,lD 16 1 15,fD 17 5 3,nP (.sto 1 (.t 17) (.t 16))] (sR [fD 18 6 1,lD 19 1 18,fD 20 6 3,nP (.sto 1 (.t 20) (.t 19))] (sR [lA 21 7 3,nP (.sto 7 (.t 2) (.t 21))] .ret)))))))
theorem dg62:Dg Tryz.prog 62 Tryz.f62 ic62 [(.cell 2 7 true)]:=⟨Tryz.func62,by kernel_rfl,by kernel_rfl⟩
theorem c62 (x:Pk):FnR Tryz.prog G 62 [.agg [.int .i64 x.kind,.int .i64 x.frm.a,.int .i64 x.frm.p,.int .i64 x.to.a,.int .i64 x.to.p,.int .i64 x.at_,.str x.text]] (.agg [.int .i64 x.kind,.int .i64 x.frm.a,.int .i64 x.frm.p,.int .i64 x.to.a,.int .i64 x.to.p,.int .i64 x.at_,.str x.text]):=by
 refine mF dg62 Tryz.ntmps62 ?_
 simp only[ic62,go_sem]
 have c1:=c61 x.frm
 have c2:=c61 x.to
 with_reducible repeat' (first|refine br ?_ ?_<;>intro h e<;>(try simp only[e,go_sem])<;>clear e|rw[q01 (by omega)]|refine sd ?_<;>try simp only[go_sem]|(first|refine cr (c1 ..) ?_|refine cr (c2 ..) ?_)<;>try simp only[go_sem]|fail)
def ic25:IC:=sR [oP 1 (.box 55 (.t 0)),oP 2 (.alloc 69 [i0,i0,i0,i0,s0,s0,i0,i0,s0,s0])] (sR [oP 3 (.alloc 69 [i0,i0,i0,i0,s0,s0,i0,i0,s0,s0])] (sR [fD 4 0 1,lA 5 2 4,oP 6 (.call 61 [.t 5]),fD 7 0 3,nP (.sto 2 (.t 7) (.t 6))] (sR [fD 8 2 1,lA 9 2 8,oP 10 (.call 61 [.t 9]),fD 11 2 3,nP (.sto 2 (.t 11) (.t 10))] (sR [fD 12 4 1,lD 13 1 12,fD 14 4 3,nP (.sto 1 (.t 14) (.t 13))] (sR [fD 15 5 1,lD 16 1 15,fD 17 5 3,nP (.sto 1 (.t 17) (.t 16))] (sR [fD 18 6 1,lD 19 1 18,fD 20 6 3,nP (.sto 1 (.t 20) (.t 19))] (sR [fD 21 7 1,lD 22 1 21,fD 23 7 3,nP (.sto 1 (.t 23) (.t 22))] (sR [fD 24 8 1,lD 25 1 24,fD 26 8 3,nP (.sto 1 (.t 26) (.t 25))] (sR [fD 27 9 1,lD 28 1 27,fD 29 9 3,nP (.sto 1 (.t 29) (.t 28))] (sR [lA 30 10 3,nP (.sto 10 (.t 2) (.t 30))] .ret))))))))))
theorem dg25:Dg Tryz.prog 25 Tryz.f25 ic25 [(.cell 2 10 true)]:=⟨Tryz.func25,by kernel_rfl,by kernel_rfl⟩
theorem c25 (x:Conv):FnR Tryz.prog G 25 [.agg [.int .i64 x.ins.a,.int .i64 x.ins.p,.int .i64 x.out.a,.int .i64 x.out.p,.str x.up,.str x.down,.int .i64 x.upAck,.int .i64 x.downAck,.str x.upGot,.str x.downGot]] (.agg [.int .i64 x.ins.a,.int .i64 x.ins.p,.int .i64 x.out.a,.int .i64 x.out.p,.str x.up,.str x.down,.int .i64 x.upAck,.int .i64 x.downAck,.str x.upGot,.str x.downGot]):=by
 refine mF dg25 Tryz.ntmps25 ?_
 simp only[ic25,go_sem]
 have c1:=c61 x.ins
 have c2:=c61 x.out
 with_reducible repeat' (first|refine br ?_ ?_<;>intro h e<;>(try simp only[e,go_sem])<;>clear e|rw[q01 (by omega)]|refine sd ?_<;>try simp only[go_sem]|(first|refine cr (c1 ..) ?_|refine cr (c2 ..) ?_)<;>try simp only[go_sem]|fail)
def ic26:IC:=sR [oP 1 (.box 60 (.t 0)),oP 2 (.alloc 67 [i0,i0,i0,i0,i0,i0,i0,i0,i0,i0,s0])] (sR [oP 3 (.alloc 67 [i0,i0,i0,i0,i0,i0,i0,i0,i0,i0,s0])] (sR [fD 4 0 1,lD 5 1 4,fD 6 0 3,nP (.sto 1 (.t 6) (.t 5))] (sR [fD 7 1 1,lD 8 1 7,fD 9 1 3,nP (.sto 1 (.t 9) (.t 8))] (sR [fD 10 2 1,lD 11 1 10,fD 12 2 3,nP (.sto 1 (.t 12) (.t 11))] (sR [fD 13 3 1,lD 14 1 13,fD 15 3 3,nP (.sto 1 (.t 15) (.t 14))] (sR [fD 16 4 1,lA 17 7 16,oP 18 (.call 62 [.t 17]),fD 19 4 3,nP (.sto 7 (.t 19) (.t 18))] (sR [lA 20 11 3,nP (.sto 11 (.t 2) (.t 20))] .ret)))))))
theorem dg26:Dg Tryz.prog 26 Tryz.f26 ic26 [(.cell 2 11 true)]:=⟨Tryz.func26,by kernel_rfl,by kernel_rfl⟩
theorem c26 (x:Ev):FnR Tryz.prog G 26 [.agg [.int .i64 x.kind,.int .i64 x.a,.int .i64 x.b,.int .i64 x.c,.int .i64 x.pkt.kind,.int .i64 x.pkt.frm.a,.int .i64 x.pkt.frm.p,.int .i64 x.pkt.to.a,.int .i64 x.pkt.to.p,.int .i64 x.pkt.at_,.str x.pkt.text]] (.agg [.int .i64 x.kind,.int .i64 x.a,.int .i64 x.b,.int .i64 x.c,.int .i64 x.pkt.kind,.int .i64 x.pkt.frm.a,.int .i64 x.pkt.frm.p,.int .i64 x.pkt.to.a,.int .i64 x.pkt.to.p,.int .i64 x.pkt.at_,.str x.pkt.text]):=by
 refine mF dg26 Tryz.ntmps26 ?_
 simp only[ic26,go_sem]
 have c1:=c62 x.pkt
 have c2:=c1
 with_reducible repeat' (first|refine br ?_ ?_<;>intro h e<;>(try simp only[e,go_sem])<;>clear e|rw[q01 (by omega)]|refine sd ?_<;>try simp only[go_sem]|(first|refine cr (c1 ..) ?_|refine cr (c2 ..) ?_)<;>try simp only[go_sem]|fail)
def ic8:IC:=sR [oP 2 (.mv (.c .nils))] (sR [mV 5 0,oP 6 (.len (.t 5)),oP 7 (.mkl 69 10 [i0,i0,i0,i0,s0,s0,i0,i0,s0,s0] (.t 6)),mV 3 7] (.seq (sR [oP 4 (.mv (.c i0))] (.block 0 (.loop (.seq (sR [mV 8 4,mV 9 0,oP 10 (.len (.t 9)),bN 11 .lss 8 10] (cD 11 .skip (.exit 0))) (.seq (.block 1 (.reg [mV 14 3,mV 15 4,mV 16 0,mV 17 4,oP 18 (.iad 10 (.t 16) (.t 17)),lA 19 10 18,oP 20 (.call 25 [.t 19]),oP 21 (.iad 10 (.t 14) (.t 15)),nP (.sto 10 (.t 21) (.t 20))])) (.reg [mV 12 4,oP 13 (.bin .add (.t 12) (cI 1)),mV 4 13])))))) (sR [mV 22 3,mV 2 22] .ret)))
theorem dg8:Dg Tryz.prog 8 Tryz.f8 ic8 [(.t 2)]:=⟨Tryz.func8,by kernel_rfl,by kernel_rfl⟩
set_option maxHeartbeats 1000000 in
theorem c8 (l:List Conv) (hl:l.length≤1048576):FnP Tryz.prog G 8 0 [] [.sl 10 (l.map Conv.row)] (λr o=>r=.own 0 l.length∧o=[.arr 69 10 (l.map Conv.row)]):=by
 refine mP dg8 Tryz.ntmps8 ⟨_,_,rfl,rfl⟩ ?_
 simp only[ic8,go_sem]
 with_reducible repeat' (first|refine br ?_ ?_<;>intro h e<;>(try simp only[e,go_sem])<;>clear e|rw[q01 (by omega)]|refine sd ?_<;>try simp only[go_sem]|fail)
 obtain⟨Z,hZ⟩:∃Z:List V,Z=Conv.row default:=⟨_,rfl⟩
 refine q0h (λi:Nat=>⟨q0e [(0,.sl 10 (l.map Conv.row)),(3,.own 1007 l.length),(4,.int .i64 (i:Int))],q09 [(1007,.arr 69 10 ((l.take i).map Conv.row++List.replicate (l.length - i) Z))]⟩) (λi=>l.length - i) (λi=>i≤l.length) 0
  (leN [] (by simp only[go_sem];first|done|omega|rfl) (by simp only[go_sem,List.take_zero,List.map_nil,List.nil_append,Nat.sub_zero,hZ];first|done|rfl) (by simp[q0b]) (by simp only[go_sem])) (Nat.zero_le _) ?_
 intro i hi
 by_cases h:(i:Int)<l.length
 ·have hil:i<l.length:=by omega
  have hg:l.getD i default=l[i]:=by simp[List.getD,hil]
  have e1:List.replicate (l.length - i) Z=Z::List.replicate (l.length - (i+1)) Z:=by rw[show l.length - i=l.length - (i+1)+1 by omega,List.replicate_succ]
  have e0:l.take (i+1)=l.take i++[l[i]]:=by rw[List.take_add_one];simp[hil]
  have e2:(l.take (i+1)).map Conv.row=(l.take i).map Conv.row++[Conv.row l[i]]:=by rw[e0,List.map_append];rfl
  have hZd:Z.drop 10=[]:=by rw[hZ];rfl
  obtain⟨A,hA⟩:∃A,(l.take i).map Conv.row=A:=⟨_,rfl⟩
  have hAl:A.length=i:=by rw[←hA];simp;omega
  have g1:=q4h A (List.replicate (l.length - (i+1)) Z)
  have g2:=q4b A (List.replicate (l.length - (i+1)) Z)
  rw[hAl] at g1 g2
  have c1:=c25 l[i]
  have lA:(A++Z::List.replicate (l.length - (i+1)) Z).length=l.length:=by simp[hAl];omega
  simp only[hA,e1]
  simp only[eq_true h,go_sem]
  with_reducible repeat' (first|refine br ?_ ?_<;>intro h e<;>(try simp only[e,go_sem,hg,g1,g2,lA,hZd])<;>clear e|rw[q01 (by omega)]|refine sd ?_<;>try simp only[go_sem,hg,g1,g2,lA,hZd]|(first|refine cr (c1 ..) ?_)<;>try simp only[go_sem,hg,g1,g2,lA,hZd]|fail)
  exact⟨i+1,by omega,by omega,leN [] (by simp only[go_sem];first|done|omega|rfl) (by simp only[go_sem,e2,hA,List.append_assoc,hZd];first|done|rfl) (by simp[q0b]) (by simp only[go_sem])⟩
 ·simp only[eq_false h,go_sem]
  have:i=l.length:=by omega
  subst this
  simp only[List.take_length,Nat.sub_self,List.replicate_zero,List.append_nil]
  with_reducible repeat' (first|refine br ?_ ?_<;>intro h e<;>(try simp only[e,go_sem])<;>clear e|rw[q01 (by omega)]|refine sd ?_<;>try simp only[go_sem]|fail)
  exact q0v (.own 0 l.length) [.arr 69 10 (l.map Conv.row)] [(0,1007)] (by simp only[go_sem]) ⟨rfl,rfl⟩ (by simp only[go_sem]) (by simp[q0r,q0b]) (by simp only[go_sem])
def ic9:IC:=sR [oP 2 (.mv (.c .nils))] (sR [mV 5 0,oP 6 (.len (.t 5)),oP 7 (.mkl 67 11 [i0,i0,i0,i0,i0,i0,i0,i0,i0,i0,s0] (.t 6)),mV 3 7] (.seq (sR [oP 4 (.mv (.c i0))] (.block 0 (.loop (.seq (sR [mV 8 4,mV 9 0,oP 10 (.len (.t 9)),bN 11 .lss 8 10] (cD 11 .skip (.exit 0))) (.seq (.block 1 (.reg [mV 14 3,mV 15 4,mV 16 0,mV 17 4,oP 18 (.iad 11 (.t 16) (.t 17)),lA 19 11 18,oP 20 (.call 26 [.t 19]),oP 21 (.iad 11 (.t 14) (.t 15)),nP (.sto 11 (.t 21) (.t 20))])) (.reg [mV 12 4,oP 13 (.bin .add (.t 12) (cI 1)),mV 4 13])))))) (sR [mV 22 3,mV 2 22] .ret)))
theorem dg9:Dg Tryz.prog 9 Tryz.f9 ic9 [(.t 2)]:=⟨Tryz.func9,by kernel_rfl,by kernel_rfl⟩
set_option maxHeartbeats 1000000 in
theorem c9 (l:List Ev) (hl:l.length≤1048576):FnP Tryz.prog G 9 0 [] [.sl 11 (l.map Ev.row)] (λr o=>r=.own 0 l.length∧o=[.arr 67 11 (l.map Ev.row)]):=by
 refine mP dg9 Tryz.ntmps9 ⟨_,_,rfl,rfl⟩ ?_
 simp only[ic9,go_sem]
 with_reducible repeat' (first|refine br ?_ ?_<;>intro h e<;>(try simp only[e,go_sem])<;>clear e|rw[q01 (by omega)]|refine sd ?_<;>try simp only[go_sem]|fail)
 obtain⟨Z,hZ⟩:∃Z:List V,Z=Ev.row default:=⟨_,rfl⟩
 refine q0h (λi:Nat=>⟨q0e [(0,.sl 11 (l.map Ev.row)),(3,.own 1007 l.length),(4,.int .i64 (i:Int))],q09 [(1007,.arr 67 11 ((l.take i).map Ev.row++List.replicate (l.length - i) Z))]⟩) (λi=>l.length - i) (λi=>i≤l.length) 0
  (leN [] (by simp only[go_sem];first|done|omega|rfl) (by simp only[go_sem,List.take_zero,List.map_nil,List.nil_append,Nat.sub_zero,hZ];first|done|rfl) (by simp[q0b]) (by simp only[go_sem])) (Nat.zero_le _) ?_
 intro i hi
 by_cases h:(i:Int)<l.length
 ·have hil:i<l.length:=by omega
  have hg:l.getD i default=l[i]:=by simp[List.getD,hil]
  have e1:List.replicate (l.length - i) Z=Z::List.replicate (l.length - (i+1)) Z:=by rw[show l.length - i=l.length - (i+1)+1 by omega,List.replicate_succ]
  have e0:l.take (i+1)=l.take i++[l[i]]:=by rw[List.take_add_one];simp[hil]
  have e2:(l.take (i+1)).map Ev.row=(l.take i).map Ev.row++[Ev.row l[i]]:=by rw[e0,List.map_append];rfl
  have hZd:Z.drop 11=[]:=by rw[hZ];rfl
  obtain⟨A,hA⟩:∃A,(l.take i).map Ev.row=A:=⟨_,rfl⟩
  have hAl:A.length=i:=by rw[←hA];simp;omega
  have g1:=q4h A (List.replicate (l.length - (i+1)) Z)
  have g2:=q4b A (List.replicate (l.length - (i+1)) Z)
  rw[hAl] at g1 g2
  have c1:=c26 l[i]
  have lA:(A++Z::List.replicate (l.length - (i+1)) Z).length=l.length:=by simp[hAl];omega
  simp only[hA,e1]
  simp only[eq_true h,go_sem]
  with_reducible repeat' (first|refine br ?_ ?_<;>intro h e<;>(try simp only[e,go_sem,hg,g1,g2,lA,hZd])<;>clear e|rw[q01 (by omega)]|refine sd ?_<;>try simp only[go_sem,hg,g1,g2,lA,hZd]|(first|refine cr (c1 ..) ?_)<;>try simp only[go_sem,hg,g1,g2,lA,hZd]|fail)
  exact⟨i+1,by omega,by omega,leN [] (by simp only[go_sem];first|done|omega|rfl) (by simp only[go_sem,e2,hA,List.append_assoc,hZd];first|done|rfl) (by simp[q0b]) (by simp only[go_sem])⟩
 ·simp only[eq_false h,go_sem]
  have:i=l.length:=by omega
  subst this
  simp only[List.take_length,Nat.sub_self,List.replicate_zero,List.append_nil]
  with_reducible repeat' (first|refine br ?_ ?_<;>intro h e<;>(try simp only[e,go_sem])<;>clear e|rw[q01 (by omega)]|refine sd ?_<;>try simp only[go_sem]|fail)
  exact q0v (.own 0 l.length) [.arr 67 11 (l.map Ev.row)] [(0,1007)] (by simp only[go_sem]) ⟨rfl,rfl⟩ (by simp only[go_sem]) (by simp[q0r,q0b]) (by simp only[go_sem])
def ic21:IC:=sR [oP 2 (.box 55 (.t 0)),oP 4 (.mv (.c i0))] (sR [mV 5 1,fD 6 4 2,lD 7 1 6,oP 8 (.lens (.t 7)),bN 9 .sub 5 8,mV 1 9] (.seq (sR [mV 10 1,oP 11 (.bin .lss (.t 10) (.c i0))] (cD 11 (sR [oP 4 (.mv (.c (.int .i64 (-1))))] .ret) .skip)) (sR [mV 12 1,fD 13 5 2,lD 14 1 13,oP 15 (.lens (.t 14)),bN 16 .sub 12 15,mV 1 16] (.seq (sR [mV 17 1,oP 18 (.bin .lss (.t 17) (.c i0))] (cD 18 (sR [oP 4 (.mv (.c (.int .i64 (-1))))] .ret) .skip)) (sR [mV 19 1,fD 20 8 2,lD 21 1 20,oP 22 (.lens (.t 21)),bN 23 .sub 19 22,mV 1 23] (.seq (sR [mV 24 1,oP 25 (.bin .lss (.t 24) (.c i0))] (cD 25 (sR [oP 4 (.mv (.c (.int .i64 (-1))))] .ret) .skip)) (sR [mV 26 1,fD 27 9 2,lD 28 1 27,oP 29 (.lens (.t 28)),bN 30 .sub 26 29,mV 1 30] (.seq (sR [mV 31 1,oP 32 (.bin .lss (.t 31) (.c i0))] (cD 32 (sR [oP 4 (.mv (.c (.int .i64 (-1))))] .ret) .skip)) (sR [mV 33 1,mV 4 33] .ret)))))))))
theorem dg21:Dg Tryz.prog 21 Tryz.f21 ic21 [(.t 4)]:=⟨Tryz.func21,by kernel_rfl,by kernel_rfl⟩
theorem c21 (c:Conv) (l:Int) (hc:qp1 c) (hl:0≤l∧l≤1048576):FnR Tryz.prog G 21 [.agg [.int .i64 c.ins.a,.int .i64 c.ins.p,.int .i64 c.out.a,.int .i64 c.out.p,.str c.up,.str c.down,.int .i64 c.upAck,.int .i64 c.downAck,.str c.upGot,.str c.downGot],.int .i64 l] (.int .i64 (szC l c)):=by
 refine mF dg21 Tryz.ntmps21 ?_
 obtain⟨h1,h2,h3,h4⟩:=hc
 simp only[ic21,go_sem]
 with_reducible repeat' (first|rw[q01 (by omega)];try simp only[go_sem]|refine br ?_ ?_<;>intro h e<;>(try simp only[e,go_sem])<;>clear e|refine sd ?_<;>try simp only[go_sem]|fail)
 all_goals(simp only[szC,sz1,qbm]<;>simp_all)
 all_goals omega
def ic54:IC:=sR [oP 2 (.box 58 (.t 0)),oP 4 (.mv (.c i0))] (sR [mV 5 1,fD 6 6 2,lD 7 1 6,oP 8 (.lens (.t 7)),bN 9 .sub 5 8,mV 1 9] (.seq (sR [mV 10 1,oP 11 (.bin .lss (.t 10) (.c i0))] (cD 11 (sR [oP 4 (.mv (.c (.int .i64 (-1))))] .ret) .skip)) (sR [mV 12 1,mV 4 12] .ret)))
theorem dg54:Dg Tryz.prog 54 Tryz.f54 ic54 [(.t 4)]:=⟨Tryz.func54,by kernel_rfl,by kernel_rfl⟩
theorem c54 (p:Pk) (l:Int) (hp:(p.text.length:Int)≤9223372036854775807) (hl:0≤l∧l≤1048576):FnR Tryz.prog G 54 [.agg [.int .i64 p.kind,.int .i64 p.frm.a,.int .i64 p.frm.p,.int .i64 p.to.a,.int .i64 p.to.p,.int .i64 p.at_,.str p.text],.int .i64 l] (.int .i64 (qbm l p.text.length)):=by
 refine mF dg54 Tryz.ntmps54 ?_
 simp only[ic54,go_sem]
 with_reducible repeat' (first|rw[q01 (by omega)];try simp only[go_sem]|refine br ?_ ?_<;>intro h e<;>(try simp only[e,go_sem])<;>clear e|refine sd ?_<;>try simp only[go_sem]|fail)
 all_goals(simp only[qbm]<;>simp_all)
 all_goals omega
def ic22:IC:=sR [oP 2 (.box 60 (.t 0)),oP 4 (.mv (.c i0))] (sR [fD 5 4 2,lA 6 7 5,mV 7 1,oP 8 (.call 54 [.t 6,.t 7]),mV 1 8] (.seq (sR [mV 9 1,oP 10 (.bin .lss (.t 9) (.c i0))] (cD 10 (sR [oP 4 (.mv (.c (.int .i64 (-1))))] .ret) .skip)) (sR [mV 11 1,mV 4 11] .ret)))
theorem dg22:Dg Tryz.prog 22 Tryz.f22 ic22 [(.t 4)]:=⟨Tryz.func22,by kernel_rfl,by kernel_rfl⟩
theorem c22 (e:Ev) (l:Int) (hp:qoz e) (hl:0≤l∧l≤1048576):FnR Tryz.prog G 22 [.agg [.int .i64 e.kind,.int .i64 e.a,.int .i64 e.b,.int .i64 e.c,.int .i64 e.pkt.kind,.int .i64 e.pkt.frm.a,.int .i64 e.pkt.frm.p,.int .i64 e.pkt.to.a,.int .i64 e.pkt.to.p,.int .i64 e.pkt.at_,.str e.pkt.text],.int .i64 l] (.int .i64 (szE l e)):=by
 refine mF dg22 Tryz.ntmps22 ?_
 have c1:=c54 e.pkt l hp hl
 have hx:qbm l e.pkt.text.length<0→qbm l e.pkt.text.length = -1:=by unfold qbm;split<;>omega
 simp only[ic22,go_sem]
 with_reducible repeat' (first|refine br ?_ ?_<;>intro h e<;>(try simp only[e,go_sem])<;>clear e|rw[q01 (by omega)]|refine sd ?_<;>try simp only[go_sem]|(first|refine cr (c1 ..) ?_)<;>try simp only[go_sem]|fail)
 all_goals(simp only[szE]<;>simp_all)
theorem qmn (l:Int) (c:Conv) (h:szC l c<0):szC l c = -1:=by
 simp only[szC,sz1,qbm] at *;(repeat split)<;>omega
def ic5:IC:=sR [oP 4 (.mv (.c i0))] (sR [mV 6 1,mV 7 0,oP 8 (.len (.t 7)),bN 9 .sub 6 8,mV 1 9] (.seq (sR [mV 10 1,oP 11 (.bin .lss (.t 10) (.c i0))] (cD 11 (sR [oP 4 (.mv (.c (.int .i64 (-1))))] .ret) .skip)) (.seq (sR [oP 5 (.mv (.c i0))] (.block 0 (.loop (.seq (sR [mV 12 5,mV 13 0,oP 14 (.len (.t 13)),bN 15 .lss 12 14] (cD 15 .skip (.exit 0))) (.seq (.block 1 (sR [mV 18 0,mV 19 5,oP 20 (.iad 10 (.t 18) (.t 19)),lA 21 10 20,mV 22 1,oP 23 (.call 21 [.t 21,.t 22]),mV 1 23] (sR [mV 24 1,oP 25 (.bin .lss (.t 24) (.c i0))] (cD 25 (sR [oP 4 (.mv (.c (.int .i64 (-1))))] .ret) .skip)))) (.reg [mV 16 5,oP 17 (.bin .add (.t 16) (cI 1)),mV 5 17])))))) (sR [mV 26 1,mV 4 26] .ret))))
theorem dg5:Dg Tryz.prog 5 Tryz.f5 ic5 [(.t 4)]:=⟨Tryz.func5,by kernel_rfl,by kernel_rfl⟩
set_option maxHeartbeats 1000000 in
theorem c5 (l:List Conv) (n:Int) (hll:(l.length:Int)≤9223372036854775807) (hb:∀c∈l,qp1 c) (hn:0≤n∧n≤1048576):FnR Tryz.prog G 5 [.sl 10 (l.map Conv.row),.int .i64 n] (.int .i64 (szS szC n l)):=by
 refine mF dg5 Tryz.ntmps5 ?_
 simp only[ic5,go_sem]
 with_reducible repeat' (first|rw[q01 (by omega)];try simp only[go_sem]|refine br ?_ ?_<;>intro h e<;>(try simp only[e,go_sem])<;>clear e|refine sd ?_<;>try simp only[go_sem]|fail)
 ·rw[szS,if_pos (by omega)]
 have hs:szS szC n l=szL szC (n - l.length) l:=by rw[szS,if_neg (by omega)]
 rw[hs]
 refine q0h (λa:Nat×Int=>⟨q0e [(0,.sl 10 (l.map Conv.row)),(1,.int .i64 a.2),(5,.int .i64 (a.1:Int))],q09 []⟩) (λa=>l.length - a.1) (λa=>a.1≤l.length∧(0≤a.2∧a.2≤1048576)∧szL szC (n - l.length) l=szL szC a.2 (l.drop a.1)) (0,n - l.length) (leQ []) ⟨Nat.zero_le _,by omega,rfl⟩ ?_
 intro⟨i,m⟩ ⟨hi,hm,he⟩
 simp only at hi hm he
 simp only[go_sem]
 by_cases h:(i:Int)<l.length
 ·have hil:i<l.length:=by omega
  have hg:l.getD i default=l[i]:=by simp[List.getD,hil]
  rw[List.drop_eq_getElem_cons hil,szL] at he
  have c1:=c21 l[i] m (hb _ (List.getElem_mem hil)) hm
  have hne:=qmn m l[i]
  have hle:=@qkb m l[i]
  simp only[eq_true h,go_sem]
  with_reducible repeat' (first|refine br ?_ ?_<;>intro h e<;>(try simp only[e,go_sem,hg])<;>clear e|rw[q01 (by omega)]|refine sd ?_<;>try simp only[go_sem,hg]|(first|refine cr (c1 ..) ?_)<;>try simp only[go_sem,hg]|fail)
  ·rw[he,if_pos (by assumption)]
  ·rw[if_neg (by omega)] at he
   exact⟨(i+1,szC m l[i]),by simp only;omega,⟨by simp only;omega,by simp only;have:=hle (by omega);omega,he⟩,(leQ [])⟩
 ·simp only[eq_false h,go_sem]
  have:i=l.length:=by omega
  subst this
  rw[List.drop_length,szL] at he
  rw[he]
  with_reducible repeat' (first|refine br ?_ ?_<;>intro h e<;>(try simp only[e,go_sem])<;>clear e|rw[q01 (by omega)]|refine sd ?_<;>try simp only[go_sem]|fail)
theorem qoe (l:Int) (c:Ev) (h:szE l c<0):szE l c = -1:=by
 simp only[szE,qbm] at *;split<;>omega
def ic6:IC:=sR [oP 4 (.mv (.c i0))] (sR [mV 6 1,mV 7 0,oP 8 (.len (.t 7)),bN 9 .sub 6 8,mV 1 9] (.seq (sR [mV 10 1,oP 11 (.bin .lss (.t 10) (.c i0))] (cD 11 (sR [oP 4 (.mv (.c (.int .i64 (-1))))] .ret) .skip)) (.seq (sR [oP 5 (.mv (.c i0))] (.block 0 (.loop (.seq (sR [mV 12 5,mV 13 0,oP 14 (.len (.t 13)),bN 15 .lss 12 14] (cD 15 .skip (.exit 0))) (.seq (.block 1 (sR [mV 18 0,mV 19 5,oP 20 (.iad 11 (.t 18) (.t 19)),lA 21 11 20,mV 22 1,oP 23 (.call 22 [.t 21,.t 22]),mV 1 23] (sR [mV 24 1,oP 25 (.bin .lss (.t 24) (.c i0))] (cD 25 (sR [oP 4 (.mv (.c (.int .i64 (-1))))] .ret) .skip)))) (.reg [mV 16 5,oP 17 (.bin .add (.t 16) (cI 1)),mV 5 17])))))) (sR [mV 26 1,mV 4 26] .ret))))
theorem dg6:Dg Tryz.prog 6 Tryz.f6 ic6 [(.t 4)]:=⟨Tryz.func6,by kernel_rfl,by kernel_rfl⟩
set_option maxHeartbeats 1000000 in
theorem c6 (l:List Ev) (n:Int) (hll:(l.length:Int)≤9223372036854775807) (hb:∀c∈l,qoz c) (hn:0≤n∧n≤1048576):FnR Tryz.prog G 6 [.sl 11 (l.map Ev.row),.int .i64 n] (.int .i64 (szS szE n l)):=by
 refine mF dg6 Tryz.ntmps6 ?_
 simp only[ic6,go_sem]
 with_reducible repeat' (first|rw[q01 (by omega)];try simp only[go_sem]|refine br ?_ ?_<;>intro h e<;>(try simp only[e,go_sem])<;>clear e|refine sd ?_<;>try simp only[go_sem]|fail)
 ·rw[szS,if_pos (by omega)]
 have hs:szS szE n l=szL szE (n - l.length) l:=by rw[szS,if_neg (by omega)]
 rw[hs]
 refine q0h (λa:Nat×Int=>⟨q0e [(0,.sl 11 (l.map Ev.row)),(1,.int .i64 a.2),(5,.int .i64 (a.1:Int))],q09 []⟩) (λa=>l.length - a.1) (λa=>a.1≤l.length∧(0≤a.2∧a.2≤1048576)∧szL szE (n - l.length) l=szL szE a.2 (l.drop a.1)) (0,n - l.length) (leQ []) ⟨Nat.zero_le _,by omega,rfl⟩ ?_
 intro⟨i,m⟩ ⟨hi,hm,he⟩
 simp only at hi hm he
 simp only[go_sem]
 by_cases h:(i:Int)<l.length
 ·have hil:i<l.length:=by omega
  have hg:l.getD i default=l[i]:=by simp[List.getD,hil]
  rw[List.drop_eq_getElem_cons hil,szL] at he
  have c1:=c22 l[i] m (hb _ (List.getElem_mem hil)) hm
  have hne:=qoe m l[i]
  have hle:=@qk0 m l[i]
  simp only[eq_true h,go_sem]
  with_reducible repeat' (first|refine br ?_ ?_<;>intro h e<;>(try simp only[e,go_sem,hg])<;>clear e|rw[q01 (by omega)]|refine sd ?_<;>try simp only[go_sem,hg]|(first|refine cr (c1 ..) ?_)<;>try simp only[go_sem,hg]|fail)
  ·rw[he,if_pos (by assumption)]
  ·rw[if_neg (by omega)] at he
   exact⟨(i+1,szE m l[i]),by simp only;omega,⟨by simp only;omega,by simp only;have:=hle (by omega);omega,he⟩,(leQ [])⟩
 ·simp only[eq_false h,go_sem]
  have:i=l.length:=by omega
  subst this
  rw[List.drop_length,szL] at he
  rw[he]
  with_reducible repeat' (first|refine br ?_ ?_<;>intro h e<;>(try simp only[e,go_sem])<;>clear e|rw[q01 (by omega)]|refine sd ?_<;>try simp only[go_sem]|fail)
theorem dgt_0 (out:B):dgt 0 out=out:=by rw[dgt];simp
theorem dgt_s {k:Nat} (h:0<k) (out:B):dgt k out=dgt (k / 10) (UInt8.ofNat (48+k % 10)::out):=by rw[dgt,dif_neg (by omega)]
def ic34:IC:=sR [oP 2 (.mv (.c s0))] (.seq (sR [mV 4 0,oP 5 (.bin .leq (.t 4) (.c i0))] (cD 5 (sR [oP 2 (.mv (.c (.str [109,48])))] .ret) .skip)) (sR [oP 3 (.mv (.c s0))] (.seq (.block 0 (.loop (.seq (sR [mV 6 0,oP 7 (.bin .gtr (.t 6) (.c i0))] (cD 7 .skip (.exit 0))) (.block 1 (sR [mV 8 0,oP 9 (.bin .rem (.t 8) (cI 10)),oP 10 (.bin .add (cI 48) (.t 9)),oP 11 (.cvi .u8 (.t 10)),oP 12 (.bsl 5 1 [.t 11]),oP 13 (.b2s (.t 12)),mV 14 3,bN 15 .add 13 14,mV 3 15] (.reg [mV 16 0,oP 17 (.bin .quo (.t 16) (cI 10)),mV 0 17])))))) (sR [mV 18 3,oP 19 (.bin .add (.c (.str [109])) (.t 18)),mV 2 19] .ret))))
theorem dg34:Dg Tryz.prog 34 Tryz.f34 ic34 [(.t 2)]:=⟨Tryz.func34,by kernel_rfl,by kernel_rfl⟩
set_option maxHeartbeats 1000000 in
theorem c34 (k:Int) (hk:k≤4611686018427387904):FnR Tryz.prog G 34 [.int .i64 k] (.str (mtx k)):=by
 refine mF dg34 Tryz.ntmps34 ?_
 simp only[ic34,go_sem]
 by_cases hk0:k≤0
 ·simp only[eq_true hk0,go_sem]
  with_reducible repeat' (first|refine br ?_ ?_<;>intro h e<;>(try simp only[e,go_sem])<;>clear e|rw[q01 (by omega)]|refine sd ?_<;>try simp only[go_sem]|fail)
  simp[mtx,hk0]
 simp only[eq_false hk0,go_sem]
 with_reducible repeat' (first|refine br ?_ ?_<;>intro h e<;>(try simp only[e,go_sem])<;>clear e|rw[q01 (by omega)]|refine sd ?_<;>try simp only[go_sem]|fail)
 obtain⟨n,rfl⟩:∃n:Nat,k=n:=⟨k.toNat,by omega⟩
 have hm:mtx (n:Int)=109::dgt n []:=by simp only[mtx,if_neg hk0,Int.toNat_natCast]
 rw[hm]
 refine q0h (λa:Nat×B=>⟨q0e [(0,.int .i64 (a.1:Int)),(3,.str a.2)],q09 []⟩) (λa=>a.1) (λa=>a.2.length+a.1≤n∧dgt n []=dgt a.1 a.2) (n,[]) (leQ []) ⟨by simp,rfl⟩ ?_
 intro⟨m,out⟩ ⟨hm1,hm2⟩
 simp only at hm1 hm2
 simp only[go_sem]
 by_cases h:(0:Int)<m
 ·simp only[eq_true h,go_sem]
  have q1:(m:Int).tmod 10=((m % 10:Nat):Int):=by rw[Int.tmod_eq_emod_of_nonneg (by omega)];omega
  have q2:(m:Int).tdiv 10=((m / 10:Nat):Int):=by rw[Int.tdiv_eq_ediv_of_nonneg (by omega)];omega
  have q3:IntKind.u8.wrap (48+((m % 10:Nat):Int))=((48+m % 10:Nat):Int):=by rw[u8w (by omega)];omega
  rw[@dgt_s m (by omega) out] at hm2
  with_reducible repeat' (first|rw[q01 (by omega)];try simp only[go_sem,q1,q2,q3,Int.toNat_natCast]|refine br ?_ ?_<;>intro h e<;>(try simp only[e,go_sem,q1,q2,q3,Int.toNat_natCast])<;>clear e|refine sd ?_<;>try simp only[go_sem,q1,q2,q3,Int.toNat_natCast]|fail)
  exact⟨(m / 10,UInt8.ofNat (48+m % 10)::out),by simp only;omega,⟨by simp only[zC];omega,hm2⟩,(leQ [])⟩
 ·simp only[eq_false h,go_sem]
  obtain rfl:m=0:=by omega
  rw[dgt_0] at hm2
  have:out.length≤n:=by omega
  with_reducible repeat' (first|refine br ?_ ?_<;>intro h e<;>(try simp only[e,go_sem])<;>clear e|rw[q01 (by omega)]|refine sd ?_<;>try simp only[go_sem]|fail)
  simp[hm2]
def ic84:IC:=sR [oP 4 (.mv (.c i0))] (.seq (sR [oP 5 (.mv (.c i0))] (.block 0 (.loop (.seq (sR [mV 6 5,mV 7 0,oP 8 (.len (.t 7)),bN 9 .lss 6 8] (cD 9 .skip (.exit 0))) (.seq (.block 1 (sR [mV 12 0,mV 13 5,mV 14 1,oP 15 (.iad 3 (.t 12) (.t 13)),fD 16 0 15,nP (.sto 1 (.t 16) (.t 14))] (sR [mV 17 1,oP 18 (.bin .add (.t 17) (cI 1)),mV 1 18] (sR [mV 19 0,mV 20 5,mV 21 1,oP 22 (.iad 3 (.t 19) (.t 20)),fD 23 1 22,fD 24 0 23,nP (.sto 1 (.t 24) (.t 21))] (sR [mV 25 1,oP 26 (.bin .add (.t 25) (cI 1)),mV 1 26] (sR [mV 27 0,mV 28 5,mV 29 1,oP 30 (.iad 3 (.t 27) (.t 28)),fD 31 1 30,fD 32 1 31,nP (.sto 1 (.t 32) (.t 29))] (.reg [mV 33 1,oP 34 (.bin .add (.t 33) (cI 1)),mV 1 34]))))))) (.reg [mV 10 5,oP 11 (.bin .add (.t 10) (cI 1)),mV 5 11])))))) (sR [mV 35 1,mV 4 35] .ret))
theorem dg84:Dg Tryz.prog 84 Tryz.f84 ic84 [(.t 4)]:=⟨Tryz.func84,by kernel_rfl,by kernel_rfl⟩
set_option maxHeartbeats 2000000 in
theorem c84 (l:List Pair) (k:Int) (hl:l.length≤1048576) (hk:0≤k∧k≤1000000000000):FnP Tryz.prog G 84 1 [.arr 145 3 (l.map Pair.row)] [.own 0 l.length,.int .i64 k] (λr o=>r=.int .i64 (k+3*l.length)∧o=[.arr 145 3 ((mkS q2o 3 k l.length).map Pair.row)]):=by
 refine mP dg84 Tryz.ntmps84 ⟨_,_,rfl,rfl⟩ ?_
 simp only[ic84,go_sem]
 with_reducible repeat' (first|refine br ?_ ?_<;>intro h e<;>(try simp only[e,go_sem])<;>clear e|rw[q01 (by omega)]|refine sd ?_<;>try simp only[go_sem]|fail)
 refine q0h (λi:Nat=>⟨q0e [(0,.own 0 l.length),(1,.int .i64 (k+3*i)),(5,.int .i64 (i:Int))],q09 [(0,.arr 145 3 ((mkS q2o 3 k i).map Pair.row++(l.drop i).map Pair.row))]⟩) (λi=>l.length - i) (λi=>i≤l.length) 0
  (leN [] (by simp only[go_sem];first|done|simp) (by simp only[go_sem,qg2,List.map_nil,List.nil_append,List.drop_zero];first|done|rfl) (by simp[q0b]) (by simp only[go_sem])) (Nat.zero_le _) ?_
 intro i hi
 by_cases h:(i:Int)<l.length
 ·have hil:i<l.length:=by omega
  rw[List.drop_eq_getElem_cons hil,List.map_cons]
  obtain⟨kk,hkk⟩:∃kk,k+3*(i:Int)=kk:=⟨_,rfl⟩
  have e2:(mkS q2o 3 k (i+1)).map Pair.row=(mkS q2o 3 k i).map Pair.row++[Pair.row (q2o kk)]:=by rw[q4p,hkk];simp
  have e3:k+3*((i+1:Nat):Int)=kk+3:=by omega
  obtain⟨A,hA⟩:∃A,(mkS q2o 3 k i).map Pair.row=A:=⟨_,rfl⟩
  have hAl:A.length=i:=by rw[←hA];simp[q02]
  obtain⟨R,hR⟩:∃R,(l.drop (i+1)).map Pair.row=R:=⟨_,rfl⟩
  have hRl:R.length=l.length - (i+1):=by rw[←hR];simp
  have g1:=q4h A R
  have g2:=q4b A R
  rw[hAl] at g1 g2
  have hkb:0≤kk∧kk≤2000000000000:=by omega
  have lA:∀x,(A++x::R).length=l.length:=λx=>by simp[hAl,hRl];omega
  generalize l[i]=c
  simp only[hA,hR,hkk]
  simp only[eq_true h,go_sem,lA]
  with_reducible repeat' (first|rw[q01 (by omega)];try simp only[go_sem,g1,g2,lA,Int.add_assoc,Int.reduceAdd]|refine br ?_ ?_<;>intro h e<;>(try simp only[e,go_sem,g1,g2,lA,Int.add_assoc,Int.reduceAdd])<;>clear e|refine sd ?_<;>try simp only[go_sem,g1,g2,lA,Int.add_assoc,Int.reduceAdd]|fail)
  exact⟨i+1,by omega,by omega,leN [] (by simp only[go_sem,e3];first|done|omega|rfl) (by simp only[go_sem,e2,hA,hR,List.append_assoc,q2o,Int.add_assoc,Int.reduceAdd];first|done|rfl) (by simp[q0b]) (by simp only[go_sem])⟩
 ·simp only[eq_false h,go_sem]
  have:i=l.length:=by omega
  subst this
  simp only[List.drop_length,List.map_nil,List.append_nil]
  with_reducible repeat' (first|refine br ?_ ?_<;>intro h e<;>(try simp only[e,go_sem])<;>clear e|rw[q01 (by omega)]|refine sd ?_<;>try simp only[go_sem]|fail)
  exact q0v (.int .i64 (k+3*l.length)) [.arr 145 3 ((mkS q2o 3 k l.length).map Pair.row)] [] (by simp only[go_sem]) ⟨rfl,rfl⟩ (by simp only[go_sem]) (by simp[q0r,q0b]) (by simp only[go_sem])
def qpg:IC:=sR [oP 4 (.mv (.c i0))] (.seq (sR [oP 5 (.mv (.c i0))] (.block 0 (.loop (.seq (sR [mV 6 5,mV 7 0,oP 8 (.len (.t 7)),bN 9 .lss 6 8] (cD 9 .skip (.exit 0))) (.seq (.block 1 (sR [mV 12 0,mV 13 5,mV 14 1,oP 15 (.iad 2 (.t 12) (.t 13)),fD 16 0 15,nP (.sto 1 (.t 16) (.t 14))] (sR [mV 17 1,oP 18 (.bin .add (.t 17) (cI 1)),mV 1 18] (sR [mV 19 0,mV 20 5,mV 21 1,oP 22 (.call 34 [.t 21]),oP 23 (.iad 2 (.t 19) (.t 20)),fD 24 1 23,nP (.sto 1 (.t 24) (.t 22))] (.reg [mV 25 1,oP 26 (.bin .add (.t 25) (cI 1)),mV 1 26]))))) (.reg [mV 10 5,oP 11 (.bin .add (.t 10) (cI 1)),mV 5 11])))))) (sR [mV 27 1,mV 4 27] .ret))
theorem dg139:Dg Tryz.prog 139 Tryz.f139 qpg [(.t 4)]:=⟨Tryz.func139,by kernel_rfl,by kernel_rfl⟩
set_option maxHeartbeats 2000000 in
theorem qor (l:List Part) (k:Int) (hl:l.length≤1048576) (hk:0≤k∧k≤1000000000000):FnP Tryz.prog G 139 1 [.arr 204 2 (l.map Part.row)] [.own 0 l.length,.int .i64 k] (λr o=>r=.int .i64 (k+2*l.length)∧o=[.arr 204 2 ((mkS q82 2 k l.length).map Part.row)]):=by
 refine mP dg139 Tryz.ntmps139 ⟨_,_,rfl,rfl⟩ ?_
 simp only[qpg,go_sem]
 with_reducible repeat' (first|refine br ?_ ?_<;>intro h e<;>(try simp only[e,go_sem])<;>clear e|rw[q01 (by omega)]|refine sd ?_<;>try simp only[go_sem]|fail)
 refine q0h (λi:Nat=>⟨q0e [(0,.own 0 l.length),(1,.int .i64 (k+2*i)),(5,.int .i64 (i:Int))],q09 [(0,.arr 204 2 ((mkS q82 2 k i).map Part.row++(l.drop i).map Part.row))]⟩) (λi=>l.length - i) (λi=>i≤l.length) 0
  (leN [] (by simp only[go_sem];first|done|simp) (by simp only[go_sem,qg2,List.map_nil,List.nil_append,List.drop_zero];first|done|rfl) (by simp[q0b]) (by simp only[go_sem])) (Nat.zero_le _) ?_
 intro i hi
 by_cases h:(i:Int)<l.length
 ·have hil:i<l.length:=by omega
  rw[List.drop_eq_getElem_cons hil,List.map_cons]
  obtain⟨kk,hkk⟩:∃kk,k+2*(i:Int)=kk:=⟨_,rfl⟩
  have e2:(mkS q82 2 k (i+1)).map Part.row=(mkS q82 2 k i).map Part.row++[Part.row (q82 kk)]:=by rw[q4p,hkk];simp
  have e3:k+2*((i+1:Nat):Int)=kk+2:=by omega
  obtain⟨A,hA⟩:∃A,(mkS q82 2 k i).map Part.row=A:=⟨_,rfl⟩
  have hAl:A.length=i:=by rw[←hA];simp[q02]
  obtain⟨R,hR⟩:∃R,(l.drop (i+1)).map Part.row=R:=⟨_,rfl⟩
  have hRl:R.length=l.length - (i+1):=by rw[←hR];simp
  have g1:=q4h A R
  have g2:=q4b A R
  rw[hAl] at g1 g2
  have hkb:0≤kk∧kk≤2000000000000:=by omega
  have lA:∀x,(A++x::R).length=l.length:=λx=>by simp[hAl,hRl];omega
  generalize l[i]=c
  simp only[hA,hR,hkk]
  simp only[eq_true h,go_sem,lA]
  with_reducible repeat' (first|rw[q01 (by omega)];try simp only[go_sem,g1,g2,lA,Int.add_assoc,Int.reduceAdd]|refine br ?_ ?_<;>intro h e<;>(try simp only[e,go_sem,g1,g2,lA,Int.add_assoc,Int.reduceAdd])<;>clear e|refine sd ?_<;>try simp only[go_sem,g1,g2,lA,Int.add_assoc,Int.reduceAdd]|(first|refine cr (c34 _ (by omega)) ?_)<;>try simp only[go_sem,g1,g2,lA,Int.add_assoc,Int.reduceAdd]|fail)
  exact⟨i+1,by omega,by omega,leN [] (by simp only[go_sem,e3];first|done|omega|rfl) (by simp only[go_sem,e2,hA,hR,List.append_assoc,q82,Int.add_assoc,Int.reduceAdd];first|done|rfl) (by simp[q0b]) (by simp only[go_sem])⟩
 ·simp only[eq_false h,go_sem]
  have:i=l.length:=by omega
  subst this
  simp only[List.drop_length,List.map_nil,List.append_nil]
  with_reducible repeat' (first|refine br ?_ ?_<;>intro h e<;>(try simp only[e,go_sem])<;>clear e|rw[q01 (by omega)]|refine sd ?_<;>try simp only[go_sem]|fail)
  exact q0v (.int .i64 (k+2*l.length)) [.arr 204 2 ((mkS q82 2 k l.length).map Part.row)] [] (by simp only[go_sem]) ⟨rfl,rfl⟩ (by simp only[go_sem]) (by simp[q0r,q0b]) (by simp only[go_sem])
def ic36:IC:=sR [oP 4 (.mv (.c i0))] (.seq (sR [oP 5 (.mv (.c i0))] (.block 0 (.loop (.seq (sR [mV 6 5,mV 7 0,oP 8 (.len (.t 7)),bN 9 .lss 6 8] (cD 9 .skip (.exit 0))) (.seq (.block 1 (sR [mV 12 0,mV 13 5,mV 14 1,oP 15 (.iad 7 (.t 12) (.t 13)),fD 16 0 15,nP (.sto 1 (.t 16) (.t 14))] (sR [mV 17 1,oP 18 (.bin .add (.t 17) (cI 1)),mV 1 18] (sR [mV 19 0,mV 20 5,mV 21 1,oP 22 (.iad 7 (.t 19) (.t 20)),fD 23 1 22,fD 24 0 23,nP (.sto 1 (.t 24) (.t 21))] (sR [mV 25 1,oP 26 (.bin .add (.t 25) (cI 1)),mV 1 26] (sR [mV 27 0,mV 28 5,mV 29 1,oP 30 (.iad 7 (.t 27) (.t 28)),fD 31 1 30,fD 32 1 31,nP (.sto 1 (.t 32) (.t 29))] (sR [mV 33 1,oP 34 (.bin .add (.t 33) (cI 1)),mV 1 34] (sR [mV 35 0,mV 36 5,mV 37 1,oP 38 (.iad 7 (.t 35) (.t 36)),fD 39 3 38,fD 40 0 39,nP (.sto 1 (.t 40) (.t 37))] (sR [mV 41 1,oP 42 (.bin .add (.t 41) (cI 1)),mV 1 42] (sR [mV 43 0,mV 44 5,mV 45 1,oP 46 (.iad 7 (.t 43) (.t 44)),fD 47 3 46,fD 48 1 47,nP (.sto 1 (.t 48) (.t 45))] (sR [mV 49 1,oP 50 (.bin .add (.t 49) (cI 1)),mV 1 50] (sR [mV 51 0,mV 52 5,mV 53 1,oP 54 (.iad 7 (.t 51) (.t 52)),fD 55 5 54,nP (.sto 1 (.t 55) (.t 53))] (sR [mV 56 1,oP 57 (.bin .add (.t 56) (cI 1)),mV 1 57] (sR [mV 58 0,mV 59 5,mV 60 1,oP 61 (.call 34 [.t 60]),oP 62 (.iad 7 (.t 58) (.t 59)),fD 63 6 62,nP (.sto 1 (.t 63) (.t 61))] (.reg [mV 64 1,oP 65 (.bin .add (.t 64) (cI 1)),mV 1 65]))))))))))))))) (.reg [mV 10 5,oP 11 (.bin .add (.t 10) (cI 1)),mV 5 11])))))) (sR [mV 66 1,mV 4 66] .ret))
theorem dg36:Dg Tryz.prog 36 Tryz.f36 ic36 [(.t 4)]:=⟨Tryz.func36,by kernel_rfl,by kernel_rfl⟩
set_option maxHeartbeats 2000000 in
theorem c36 (l:List Pk) (k:Int) (hl:l.length≤1048576) (hk:0≤k∧k≤1000000000000):FnP Tryz.prog G 36 1 [.arr 65 7 (l.map Pk.row)] [.own 0 l.length,.int .i64 k] (λr o=>r=.int .i64 (k+7*l.length)∧o=[.arr 65 7 ((mkS q3q 7 k l.length).map Pk.row)]):=by
 refine mP dg36 Tryz.ntmps36 ⟨_,_,rfl,rfl⟩ ?_
 simp only[ic36,go_sem]
 with_reducible repeat' (first|refine br ?_ ?_<;>intro h e<;>(try simp only[e,go_sem])<;>clear e|rw[q01 (by omega)]|refine sd ?_<;>try simp only[go_sem]|fail)
 refine q0h (λi:Nat=>⟨q0e [(0,.own 0 l.length),(1,.int .i64 (k+7*i)),(5,.int .i64 (i:Int))],q09 [(0,.arr 65 7 ((mkS q3q 7 k i).map Pk.row++(l.drop i).map Pk.row))]⟩) (λi=>l.length - i) (λi=>i≤l.length) 0
  (leN [] (by simp only[go_sem];first|done|simp) (by simp only[go_sem,qg2,List.map_nil,List.nil_append,List.drop_zero];first|done|rfl) (by simp[q0b]) (by simp only[go_sem])) (Nat.zero_le _) ?_
 intro i hi
 by_cases h:(i:Int)<l.length
 ·have hil:i<l.length:=by omega
  rw[List.drop_eq_getElem_cons hil,List.map_cons]
  obtain⟨kk,hkk⟩:∃kk,k+7*(i:Int)=kk:=⟨_,rfl⟩
  have e2:(mkS q3q 7 k (i+1)).map Pk.row=(mkS q3q 7 k i).map Pk.row++[Pk.row (q3q kk)]:=by rw[q4p,hkk];simp
  have e3:k+7*((i+1:Nat):Int)=kk+7:=by omega
  obtain⟨A,hA⟩:∃A,(mkS q3q 7 k i).map Pk.row=A:=⟨_,rfl⟩
  have hAl:A.length=i:=by rw[←hA];simp[q02]
  obtain⟨R,hR⟩:∃R,(l.drop (i+1)).map Pk.row=R:=⟨_,rfl⟩
  have hRl:R.length=l.length - (i+1):=by rw[←hR];simp
  have g1:=q4h A R
  have g2:=q4b A R
  rw[hAl] at g1 g2
  have hkb:0≤kk∧kk≤2000000000000:=by omega
  have lA:∀x,(A++x::R).length=l.length:=λx=>by simp[hAl,hRl];omega
  generalize l[i]=c
  simp only[hA,hR,hkk]
  simp only[eq_true h,go_sem,lA]
  with_reducible repeat' (first|rw[q01 (by omega)];try simp only[go_sem,g1,g2,lA,Int.add_assoc,Int.reduceAdd]|refine br ?_ ?_<;>intro h e<;>(try simp only[e,go_sem,g1,g2,lA,Int.add_assoc,Int.reduceAdd])<;>clear e|refine sd ?_<;>try simp only[go_sem,g1,g2,lA,Int.add_assoc,Int.reduceAdd]|(first|refine cr (c34 _ (by omega)) ?_)<;>try simp only[go_sem,g1,g2,lA,Int.add_assoc,Int.reduceAdd]|fail)
  exact⟨i+1,by omega,by omega,leN [] (by simp only[go_sem,e3];first|done|omega|rfl) (by simp only[go_sem,e2,hA,hR,List.append_assoc,q3q,Int.add_assoc,Int.reduceAdd];first|done|rfl) (by simp[q0b]) (by simp only[go_sem])⟩
 ·simp only[eq_false h,go_sem]
  have:i=l.length:=by omega
  subst this
  simp only[List.drop_length,List.map_nil,List.append_nil]
  with_reducible repeat' (first|refine br ?_ ?_<;>intro h e<;>(try simp only[e,go_sem])<;>clear e|rw[q01 (by omega)]|refine sd ?_<;>try simp only[go_sem]|fail)
  exact q0v (.int .i64 (k+7*l.length)) [.arr 65 7 ((mkS q3q 7 k l.length).map Pk.row)] [] (by simp only[go_sem]) ⟨rfl,rfl⟩ (by simp only[go_sem]) (by simp[q0r,q0b]) (by simp only[go_sem])
def ic14:IC:=sR [oP 4 (.mv (.c i0))] (.seq (sR [oP 5 (.mv (.c i0))] (.block 0 (.loop (.seq (sR [mV 6 5,mV 7 0,oP 8 (.len (.t 7)),bN 9 .lss 6 8] (cD 9 .skip (.exit 0))) (.seq (.block 1 (sR [mV 12 0,mV 13 5,mV 14 1,oP 15 (.iad 10 (.t 12) (.t 13)),fD 16 0 15,fD 17 0 16,nP (.sto 1 (.t 17) (.t 14))] (sR [mV 18 1,oP 19 (.bin .add (.t 18) (cI 1)),mV 1 19] (sR [mV 20 0,mV 21 5,mV 22 1,oP 23 (.iad 10 (.t 20) (.t 21)),fD 24 0 23,fD 25 1 24,nP (.sto 1 (.t 25) (.t 22))] (sR [mV 26 1,oP 27 (.bin .add (.t 26) (cI 1)),mV 1 27] (sR [mV 28 0,mV 29 5,mV 30 1,oP 31 (.iad 10 (.t 28) (.t 29)),fD 32 2 31,fD 33 0 32,nP (.sto 1 (.t 33) (.t 30))] (sR [mV 34 1,oP 35 (.bin .add (.t 34) (cI 1)),mV 1 35] (sR [mV 36 0,mV 37 5,mV 38 1,oP 39 (.iad 10 (.t 36) (.t 37)),fD 40 2 39,fD 41 1 40,nP (.sto 1 (.t 41) (.t 38))] (sR [mV 42 1,oP 43 (.bin .add (.t 42) (cI 1)),mV 1 43] (sR [mV 44 0,mV 45 5,mV 46 1,oP 47 (.call 34 [.t 46]),oP 48 (.iad 10 (.t 44) (.t 45)),fD 49 4 48,nP (.sto 1 (.t 49) (.t 47))] (sR [mV 50 1,oP 51 (.bin .add (.t 50) (cI 1)),mV 1 51] (sR [mV 52 0,mV 53 5,mV 54 1,oP 55 (.call 34 [.t 54]),oP 56 (.iad 10 (.t 52) (.t 53)),fD 57 5 56,nP (.sto 1 (.t 57) (.t 55))] (sR [mV 58 1,oP 59 (.bin .add (.t 58) (cI 1)),mV 1 59] (sR [mV 60 0,mV 61 5,mV 62 1,oP 63 (.iad 10 (.t 60) (.t 61)),fD 64 6 63,nP (.sto 1 (.t 64) (.t 62))] (sR [mV 65 1,oP 66 (.bin .add (.t 65) (cI 1)),mV 1 66] (sR [mV 67 0,mV 68 5,mV 69 1,oP 70 (.iad 10 (.t 67) (.t 68)),fD 71 7 70,nP (.sto 1 (.t 71) (.t 69))] (sR [mV 72 1,oP 73 (.bin .add (.t 72) (cI 1)),mV 1 73] (sR [mV 74 0,mV 75 5,mV 76 1,oP 77 (.call 34 [.t 76]),oP 78 (.iad 10 (.t 74) (.t 75)),fD 79 8 78,nP (.sto 1 (.t 79) (.t 77))] (sR [mV 80 1,oP 81 (.bin .add (.t 80) (cI 1)),mV 1 81] (sR [mV 82 0,mV 83 5,mV 84 1,oP 85 (.call 34 [.t 84]),oP 86 (.iad 10 (.t 82) (.t 83)),fD 87 9 86,nP (.sto 1 (.t 87) (.t 85))] (.reg [mV 88 1,oP 89 (.bin .add (.t 88) (cI 1)),mV 1 89]))))))))))))))))))))) (.reg [mV 10 5,oP 11 (.bin .add (.t 10) (cI 1)),mV 5 11])))))) (sR [mV 90 1,mV 4 90] .ret))
theorem dg14:Dg Tryz.prog 14 Tryz.f14 ic14 [(.t 4)]:=⟨Tryz.func14,by kernel_rfl,by kernel_rfl⟩
set_option maxHeartbeats 2000000 in
theorem c14 (l:List Conv) (k:Int) (hl:l.length≤1048576) (hk:0≤k∧k≤1000000000000):FnP Tryz.prog G 14 1 [.arr 69 10 (l.map Conv.row)] [.own 0 l.length,.int .i64 k] (λr o=>r=.int .i64 (k+10*l.length)∧o=[.arr 69 10 ((mkS mkC 10 k l.length).map Conv.row)]):=by
 refine mP dg14 Tryz.ntmps14 ⟨_,_,rfl,rfl⟩ ?_
 simp only[ic14,go_sem]
 with_reducible repeat' (first|refine br ?_ ?_<;>intro h e<;>(try simp only[e,go_sem])<;>clear e|rw[q01 (by omega)]|refine sd ?_<;>try simp only[go_sem]|fail)
 refine q0h (λi:Nat=>⟨q0e [(0,.own 0 l.length),(1,.int .i64 (k+10*i)),(5,.int .i64 (i:Int))],q09 [(0,.arr 69 10 ((mkS mkC 10 k i).map Conv.row++(l.drop i).map Conv.row))]⟩) (λi=>l.length - i) (λi=>i≤l.length) 0
  (leN [] (by simp only[go_sem];first|done|simp) (by simp only[go_sem,qg2,List.map_nil,List.nil_append,List.drop_zero];first|done|rfl) (by simp[q0b]) (by simp only[go_sem])) (Nat.zero_le _) ?_
 intro i hi
 by_cases h:(i:Int)<l.length
 ·have hil:i<l.length:=by omega
  rw[List.drop_eq_getElem_cons hil,List.map_cons]
  obtain⟨kk,hkk⟩:∃kk,k+10*(i:Int)=kk:=⟨_,rfl⟩
  have e2:(mkS mkC 10 k (i+1)).map Conv.row=(mkS mkC 10 k i).map Conv.row++[Conv.row (mkC kk)]:=by rw[q4p,hkk];simp
  have e3:k+10*((i+1:Nat):Int)=kk+10:=by omega
  obtain⟨A,hA⟩:∃A,(mkS mkC 10 k i).map Conv.row=A:=⟨_,rfl⟩
  have hAl:A.length=i:=by rw[←hA];simp[q02]
  obtain⟨R,hR⟩:∃R,(l.drop (i+1)).map Conv.row=R:=⟨_,rfl⟩
  have hRl:R.length=l.length - (i+1):=by rw[←hR];simp
  have g1:=q4h A R
  have g2:=q4b A R
  rw[hAl] at g1 g2
  have hkb:0≤kk∧kk≤2000000000000:=by omega
  have lA:∀x,(A++x::R).length=l.length:=λx=>by simp[hAl,hRl];omega
  generalize l[i]=c
  simp only[hA,hR,hkk]
  simp only[eq_true h,go_sem,lA]
  with_reducible repeat' (first|rw[q01 (by omega)];try simp only[go_sem,g1,g2,lA,Int.add_assoc,Int.reduceAdd]|refine br ?_ ?_<;>intro h e<;>(try simp only[e,go_sem,g1,g2,lA,Int.add_assoc,Int.reduceAdd])<;>clear e|refine sd ?_<;>try simp only[go_sem,g1,g2,lA,Int.add_assoc,Int.reduceAdd]|(first|refine cr (c34 _ (by omega)) ?_)<;>try simp only[go_sem,g1,g2,lA,Int.add_assoc,Int.reduceAdd]|fail)
  exact⟨i+1,by omega,by omega,leN [] (by simp only[go_sem,e3];first|done|omega|rfl) (by simp only[go_sem,e2,hA,hR,List.append_assoc,mkC,Int.add_assoc,Int.reduceAdd];first|done|rfl) (by simp[q0b]) (by simp only[go_sem])⟩
 ·simp only[eq_false h,go_sem]
  have:i=l.length:=by omega
  subst this
  simp only[List.drop_length,List.map_nil,List.append_nil]
  with_reducible repeat' (first|refine br ?_ ?_<;>intro h e<;>(try simp only[e,go_sem])<;>clear e|rw[q01 (by omega)]|refine sd ?_<;>try simp only[go_sem]|fail)
  exact q0v (.int .i64 (k+10*l.length)) [.arr 69 10 ((mkS mkC 10 k l.length).map Conv.row)] [] (by simp only[go_sem]) ⟨rfl,rfl⟩ (by simp only[go_sem]) (by simp[q0r,q0b]) (by simp only[go_sem])
def ic15:IC:=sR [oP 4 (.mv (.c i0))] (.seq (sR [oP 5 (.mv (.c i0))] (.block 0 (.loop (.seq (sR [mV 6 5,mV 7 0,oP 8 (.len (.t 7)),bN 9 .lss 6 8] (cD 9 .skip (.exit 0))) (.seq (.block 1 (sR [mV 12 0,mV 13 5,mV 14 1,oP 15 (.iad 11 (.t 12) (.t 13)),fD 16 0 15,nP (.sto 1 (.t 16) (.t 14))] (sR [mV 17 1,oP 18 (.bin .add (.t 17) (cI 1)),mV 1 18] (sR [mV 19 0,mV 20 5,mV 21 1,oP 22 (.iad 11 (.t 19) (.t 20)),fD 23 1 22,nP (.sto 1 (.t 23) (.t 21))] (sR [mV 24 1,oP 25 (.bin .add (.t 24) (cI 1)),mV 1 25] (sR [mV 26 0,mV 27 5,mV 28 1,oP 29 (.iad 11 (.t 26) (.t 27)),fD 30 2 29,nP (.sto 1 (.t 30) (.t 28))] (sR [mV 31 1,oP 32 (.bin .add (.t 31) (cI 1)),mV 1 32] (sR [mV 33 0,mV 34 5,mV 35 1,oP 36 (.iad 11 (.t 33) (.t 34)),fD 37 3 36,nP (.sto 1 (.t 37) (.t 35))] (sR [mV 38 1,oP 39 (.bin .add (.t 38) (cI 1)),mV 1 39] (sR [mV 40 0,mV 41 5,mV 42 1,oP 43 (.iad 11 (.t 40) (.t 41)),fD 44 4 43,fD 45 0 44,nP (.sto 1 (.t 45) (.t 42))] (sR [mV 46 1,oP 47 (.bin .add (.t 46) (cI 1)),mV 1 47] (sR [mV 48 0,mV 49 5,mV 50 1,oP 51 (.iad 11 (.t 48) (.t 49)),fD 52 4 51,fD 53 1 52,fD 54 0 53,nP (.sto 1 (.t 54) (.t 50))] (sR [mV 55 1,oP 56 (.bin .add (.t 55) (cI 1)),mV 1 56] (sR [mV 57 0,mV 58 5,mV 59 1,oP 60 (.iad 11 (.t 57) (.t 58)),fD 61 4 60,fD 62 1 61,fD 63 1 62,nP (.sto 1 (.t 63) (.t 59))] (sR [mV 64 1,oP 65 (.bin .add (.t 64) (cI 1)),mV 1 65] (sR [mV 66 0,mV 67 5,mV 68 1,oP 69 (.iad 11 (.t 66) (.t 67)),fD 70 4 69,fD 71 3 70,fD 72 0 71,nP (.sto 1 (.t 72) (.t 68))] (sR [mV 73 1,oP 74 (.bin .add (.t 73) (cI 1)),mV 1 74] (sR [mV 75 0,mV 76 5,mV 77 1,oP 78 (.iad 11 (.t 75) (.t 76)),fD 79 4 78,fD 80 3 79,fD 81 1 80,nP (.sto 1 (.t 81) (.t 77))] (sR [mV 82 1,oP 83 (.bin .add (.t 82) (cI 1)),mV 1 83] (sR [mV 84 0,mV 85 5,mV 86 1,oP 87 (.iad 11 (.t 84) (.t 85)),fD 88 4 87,fD 89 5 88,nP (.sto 1 (.t 89) (.t 86))] (sR [mV 90 1,oP 91 (.bin .add (.t 90) (cI 1)),mV 1 91] (sR [mV 92 0,mV 93 5,mV 94 1,oP 95 (.call 34 [.t 94]),oP 96 (.iad 11 (.t 92) (.t 93)),fD 97 4 96,fD 98 6 97,nP (.sto 1 (.t 98) (.t 95))] (.reg [mV 99 1,oP 100 (.bin .add (.t 99) (cI 1)),mV 1 100]))))))))))))))))))))))) (.reg [mV 10 5,oP 11 (.bin .add (.t 10) (cI 1)),mV 5 11])))))) (sR [mV 101 1,mV 4 101] .ret))
theorem dg15:Dg Tryz.prog 15 Tryz.f15 ic15 [(.t 4)]:=⟨Tryz.func15,by kernel_rfl,by kernel_rfl⟩
set_option maxHeartbeats 2000000 in
theorem c15 (l:List Ev) (k:Int) (hl:l.length≤1048576) (hk:0≤k∧k≤1000000000000):FnP Tryz.prog G 15 1 [.arr 67 11 (l.map Ev.row)] [.own 0 l.length,.int .i64 k] (λr o=>r=.int .i64 (k+11*l.length)∧o=[.arr 67 11 ((mkS qkh 11 k l.length).map Ev.row)]):=by
 refine mP dg15 Tryz.ntmps15 ⟨_,_,rfl,rfl⟩ ?_
 simp only[ic15,go_sem]
 with_reducible repeat' (first|refine br ?_ ?_<;>intro h e<;>(try simp only[e,go_sem])<;>clear e|rw[q01 (by omega)]|refine sd ?_<;>try simp only[go_sem]|fail)
 refine q0h (λi:Nat=>⟨q0e [(0,.own 0 l.length),(1,.int .i64 (k+11*i)),(5,.int .i64 (i:Int))],q09 [(0,.arr 67 11 ((mkS qkh 11 k i).map Ev.row++(l.drop i).map Ev.row))]⟩) (λi=>l.length - i) (λi=>i≤l.length) 0
  (leN [] (by simp only[go_sem];first|done|simp) (by simp only[go_sem,qg2,List.map_nil,List.nil_append,List.drop_zero];first|done|rfl) (by simp[q0b]) (by simp only[go_sem])) (Nat.zero_le _) ?_
 intro i hi
 by_cases h:(i:Int)<l.length
 ·have hil:i<l.length:=by omega
  rw[List.drop_eq_getElem_cons hil,List.map_cons]
  obtain⟨kk,hkk⟩:∃kk,k+11*(i:Int)=kk:=⟨_,rfl⟩
  have e2:(mkS qkh 11 k (i+1)).map Ev.row=(mkS qkh 11 k i).map Ev.row++[Ev.row (qkh kk)]:=by rw[q4p,hkk];simp
  have e3:k+11*((i+1:Nat):Int)=kk+11:=by omega
  obtain⟨A,hA⟩:∃A,(mkS qkh 11 k i).map Ev.row=A:=⟨_,rfl⟩
  have hAl:A.length=i:=by rw[←hA];simp[q02]
  obtain⟨R,hR⟩:∃R,(l.drop (i+1)).map Ev.row=R:=⟨_,rfl⟩
  have hRl:R.length=l.length - (i+1):=by rw[←hR];simp
  have g1:=q4h A R
  have g2:=q4b A R
  rw[hAl] at g1 g2
  have hkb:0≤kk∧kk≤2000000000000:=by omega
  have lA:∀x,(A++x::R).length=l.length:=λx=>by simp[hAl,hRl];omega
  generalize l[i]=c
  simp only[hA,hR,hkk]
  simp only[eq_true h,go_sem,lA]
  with_reducible repeat' (first|rw[q01 (by omega)];try simp only[go_sem,g1,g2,lA,Int.add_assoc,Int.reduceAdd]|refine br ?_ ?_<;>intro h e<;>(try simp only[e,go_sem,g1,g2,lA,Int.add_assoc,Int.reduceAdd])<;>clear e|refine sd ?_<;>try simp only[go_sem,g1,g2,lA,Int.add_assoc,Int.reduceAdd]|(first|refine cr (c34 _ (by omega)) ?_)<;>try simp only[go_sem,g1,g2,lA,Int.add_assoc,Int.reduceAdd]|fail)
  exact⟨i+1,by omega,by omega,leN [] (by simp only[go_sem,e3];first|done|omega|rfl) (by simp only[go_sem,e2,hA,hR,List.append_assoc,qkh,q3q,Int.add_assoc,Int.reduceAdd];first|done|rfl) (by simp[q0b]) (by simp only[go_sem])⟩
 ·simp only[eq_false h,go_sem]
  have:i=l.length:=by omega
  subst this
  simp only[List.drop_length,List.map_nil,List.append_nil]
  with_reducible repeat' (first|refine br ?_ ?_<;>intro h e<;>(try simp only[e,go_sem])<;>clear e|rw[q01 (by omega)]|refine sd ?_<;>try simp only[go_sem]|fail)
  exact q0v (.int .i64 (k+11*l.length)) [.arr 67 11 ((mkS qkh 11 k l.length).map Ev.row)] [] (by simp only[go_sem]) ⟨rfl,rfl⟩ (by simp only[go_sem]) (by simp[q0r,q0b]) (by simp only[go_sem])
def ic86:IC:=sR [oP 4 (.mv (.c i0))] (.seq (sR [oP 5 (.mv (.c i0))] (.block 0 (.loop (.seq (sR [mV 6 5,mV 7 0,oP 8 (.len (.t 7)),bN 9 .lss 6 8] (cD 9 .skip (.exit 0))) (.seq (.block 1 (.seq (sR [mV 12 0,mV 13 5,oP 14 (.iad 3 (.t 12) (.t 13)),fD 15 0 14,lD 16 1 15,mV 17 1,bN 18 .neq 16 17] (cD 18 (sR [oP 4 (.mv (.c (.int .i64 (-1))))] .ret) .skip)) (sR [mV 19 1,oP 20 (.bin .add (.t 19) (cI 1)),mV 1 20] (.seq (sR [mV 21 0,mV 22 5,oP 23 (.iad 3 (.t 21) (.t 22)),fD 24 1 23,fD 25 0 24,lD 26 1 25,mV 27 1,bN 28 .neq 26 27] (cD 28 (sR [oP 4 (.mv (.c (.int .i64 (-1))))] .ret) .skip)) (sR [mV 29 1,oP 30 (.bin .add (.t 29) (cI 1)),mV 1 30] (.seq (sR [mV 31 0,mV 32 5,oP 33 (.iad 3 (.t 31) (.t 32)),fD 34 1 33,fD 35 1 34,lD 36 1 35,mV 37 1,bN 38 .neq 36 37] (cD 38 (sR [oP 4 (.mv (.c (.int .i64 (-1))))] .ret) .skip)) (.reg [mV 39 1,oP 40 (.bin .add (.t 39) (cI 1)),mV 1 40]))))))) (.reg [mV 10 5,oP 11 (.bin .add (.t 10) (cI 1)),mV 5 11])))))) (sR [mV 41 1,mV 4 41] .ret))
theorem dg86:Dg Tryz.prog 86 Tryz.f86 ic86 [(.t 4)]:=⟨Tryz.func86,by kernel_rfl,by kernel_rfl⟩
set_option maxHeartbeats 2000000 in
theorem c86 (n:Nat) (k:Int) (hl:n≤1048576) (hk:0≤k∧k≤1000000000000):FnR Tryz.prog G 86 [.sl 3 ((mkS q2o 3 k n).map Pair.row),.int .i64 k] (.int .i64 (k+3*n)):=by
 refine mF dg86 Tryz.ntmps86 ?_
 have hn:(mkS q2o 3 k n).length=n:=q02 n
 simp only[ic86,go_sem,hn]
 with_reducible repeat' (first|refine br ?_ ?_<;>intro h e<;>(try simp only[e,go_sem,hn])<;>clear e|rw[q01 (by omega)]|refine sd ?_<;>try simp only[go_sem,hn]|fail)
 refine q0h (λi:Nat=>⟨q0e [(0,.sl 3 ((mkS q2o 3 k n).map Pair.row)),(1,.int .i64 (k+3*i)),(5,.int .i64 (i:Int))],q09 []⟩) (λi=>n - i) (λi=>i≤n) 0 (leN [] (by simp only[go_sem];first|done|simp) (by simp only[go_sem]) (by simp[q0b]) (by simp only[go_sem])) (Nat.zero_le _) ?_
 intro i hi
 simp only[go_sem,hn]
 by_cases h:(i:Int)<n
 ·have hg:(mkS q2o 3 k n).getD i default=q2o (k+3*i):=q84 (by omega)
  obtain⟨kk,hkk⟩:∃kk,k+3*(i:Int)=kk:=⟨_,rfl⟩
  have e3:k+3*((i+1:Nat):Int)=kk+3:=by omega
  have hkb:0≤kk∧kk≤2000000000000:=by omega
  rw[hkk] at hg
  simp only[hkk]
  simp only[eq_true h,go_sem,hn]
  with_reducible repeat' (first|rw[q01 (by omega)];try simp only[go_sem,hg,hn,q2o,Int.add_assoc,Int.reduceAdd,not_true_eq_false,decide_false]|refine br ?_ ?_<;>intro h e<;>(try simp only[e,go_sem,hg,hn,q2o,Int.add_assoc,Int.reduceAdd,not_true_eq_false,decide_false])<;>clear e|refine sd ?_<;>try simp only[go_sem,hg,hn,q2o,Int.add_assoc,Int.reduceAdd,not_true_eq_false,decide_false]|fail)
  exact⟨i+1,by omega,by omega,leN [] (by simp only[go_sem,e3];first|done|omega|rfl) (by simp only[go_sem]) (by simp[q0b]) (by simp only[go_sem])⟩
 ·simp only[eq_false h,go_sem]
  obtain rfl:i=n:=by omega
  with_reducible repeat' (first|refine br ?_ ?_<;>intro h e<;>(try simp only[e,go_sem])<;>clear e|rw[q01 (by omega)]|refine sd ?_<;>try simp only[go_sem]|fail)
  rfl
def qvx:IC:=sR [oP 4 (.mv (.c i0))] (.seq (sR [oP 5 (.mv (.c i0))] (.block 0 (.loop (.seq (sR [mV 6 5,mV 7 0,oP 8 (.len (.t 7)),bN 9 .lss 6 8] (cD 9 .skip (.exit 0))) (.seq (.block 1 (.seq (sR [mV 12 0,mV 13 5,oP 14 (.iad 2 (.t 12) (.t 13)),fD 15 0 14,lD 16 1 15,mV 17 1,bN 18 .neq 16 17] (cD 18 (sR [oP 4 (.mv (.c (.int .i64 (-1))))] .ret) .skip)) (sR [mV 19 1,oP 20 (.bin .add (.t 19) (cI 1)),mV 1 20] (.seq (.seq (.drw [0,0,3,7,15,0,32,127] [(0,mV 21 0),(1,mV 22 5),(2,oP 23 (.iad 2 (.t 21) (.t 22))),(3,fD 24 1 23),(4,lD 25 1 24),(5,mV 26 1),(6,oP 27 (.call 34 [.t 26])),(7,bN 28 .neq 25 27)]) (cD 28 (sR [oP 4 (.mv (.c (.int .i64 (-1))))] .ret) .skip)) (.reg [mV 29 1,oP 30 (.bin .add (.t 29) (cI 1)),mV 1 30]))))) (.reg [mV 10 5,oP 11 (.bin .add (.t 10) (cI 1)),mV 5 11])))))) (sR [mV 31 1,mV 4 31] .ret))
theorem dg140:Dg Tryz.prog 140 Tryz.f140 qvx [(.t 4)]:=⟨Tryz.func140,by kernel_rfl,by kernel_rfl⟩
set_option maxHeartbeats 2000000 in
theorem qox (n:Nat) (k:Int) (hl:n≤1048576) (hk:0≤k∧k≤1000000000000):FnR Tryz.prog G 140 [.sl 2 ((mkS q82 2 k n).map Part.row),.int .i64 k] (.int .i64 (k+2*n)):=by
 refine mF dg140 Tryz.ntmps140 ?_
 have hn:(mkS q82 2 k n).length=n:=q02 n
 simp only[qvx,go_sem,hn]
 with_reducible repeat' (first|refine br ?_ ?_<;>intro h e<;>(try simp only[e,go_sem,hn])<;>clear e|rw[q01 (by omega)]|refine sd ?_<;>try simp only[go_sem,hn]|fail)
 refine q0h (λi:Nat=>⟨q0e [(0,.sl 2 ((mkS q82 2 k n).map Part.row)),(1,.int .i64 (k+2*i)),(5,.int .i64 (i:Int))],q09 []⟩) (λi=>n - i) (λi=>i≤n) 0 (leN [] (by simp only[go_sem];first|done|simp) (by simp only[go_sem]) (by simp[q0b]) (by simp only[go_sem])) (Nat.zero_le _) ?_
 intro i hi
 simp only[go_sem,hn]
 by_cases h:(i:Int)<n
 ·have hg:(mkS q82 2 k n).getD i default=q82 (k+2*i):=q84 (by omega)
  obtain⟨kk,hkk⟩:∃kk,k+2*(i:Int)=kk:=⟨_,rfl⟩
  have e3:k+2*((i+1:Nat):Int)=kk+2:=by omega
  have hkb:0≤kk∧kk≤2000000000000:=by omega
  rw[hkk] at hg
  simp only[hkk]
  simp only[eq_true h,go_sem,hn]
  with_reducible repeat' (first|rw[q01 (by omega)];try simp only[go_sem,hg,hn,q82,Int.add_assoc,Int.reduceAdd,not_true_eq_false,decide_false]|refine br ?_ ?_<;>intro h e<;>(try simp only[e,go_sem,hg,hn,q82,Int.add_assoc,Int.reduceAdd,not_true_eq_false,decide_false])<;>clear e|refine sd ?_<;>try simp only[go_sem,hg,hn,q82,Int.add_assoc,Int.reduceAdd,not_true_eq_false,decide_false]|(first|refine cr (c34 _ (by omega)) ?_)<;>try simp only[go_sem,hg,hn,q82,Int.add_assoc,Int.reduceAdd,not_true_eq_false,decide_false]|fail)
  exact⟨i+1,by omega,by omega,leN [] (by simp only[go_sem,e3];first|done|omega|rfl) (by simp only[go_sem]) (by simp[q0b]) (by simp only[go_sem])⟩
 ·simp only[eq_false h,go_sem]
  obtain rfl:i=n:=by omega
  with_reducible repeat' (first|refine br ?_ ?_<;>intro h e<;>(try simp only[e,go_sem])<;>clear e|rw[q01 (by omega)]|refine sd ?_<;>try simp only[go_sem]|fail)
  rfl
def ic39:IC:=sR [oP 4 (.mv (.c i0))] (.seq (sR [oP 5 (.mv (.c i0))] (.block 0 (.loop (.seq (sR [mV 6 5,mV 7 0,oP 8 (.len (.t 7)),bN 9 .lss 6 8] (cD 9 .skip (.exit 0))) (.seq (.block 1 (.seq (sR [mV 12 0,mV 13 5,oP 14 (.iad 7 (.t 12) (.t 13)),fD 15 0 14,lD 16 1 15,mV 17 1,bN 18 .neq 16 17] (cD 18 (sR [oP 4 (.mv (.c (.int .i64 (-1))))] .ret) .skip)) (sR [mV 19 1,oP 20 (.bin .add (.t 19) (cI 1)),mV 1 20] (.seq (sR [mV 21 0,mV 22 5,oP 23 (.iad 7 (.t 21) (.t 22)),fD 24 1 23,fD 25 0 24,lD 26 1 25,mV 27 1,bN 28 .neq 26 27] (cD 28 (sR [oP 4 (.mv (.c (.int .i64 (-1))))] .ret) .skip)) (sR [mV 29 1,oP 30 (.bin .add (.t 29) (cI 1)),mV 1 30] (.seq (sR [mV 31 0,mV 32 5,oP 33 (.iad 7 (.t 31) (.t 32)),fD 34 1 33,fD 35 1 34,lD 36 1 35,mV 37 1,bN 38 .neq 36 37] (cD 38 (sR [oP 4 (.mv (.c (.int .i64 (-1))))] .ret) .skip)) (sR [mV 39 1,oP 40 (.bin .add (.t 39) (cI 1)),mV 1 40] (.seq (sR [mV 41 0,mV 42 5,oP 43 (.iad 7 (.t 41) (.t 42)),fD 44 3 43,fD 45 0 44,lD 46 1 45,mV 47 1,bN 48 .neq 46 47] (cD 48 (sR [oP 4 (.mv (.c (.int .i64 (-1))))] .ret) .skip)) (sR [mV 49 1,oP 50 (.bin .add (.t 49) (cI 1)),mV 1 50] (.seq (sR [mV 51 0,mV 52 5,oP 53 (.iad 7 (.t 51) (.t 52)),fD 54 3 53,fD 55 1 54,lD 56 1 55,mV 57 1,bN 58 .neq 56 57] (cD 58 (sR [oP 4 (.mv (.c (.int .i64 (-1))))] .ret) .skip)) (sR [mV 59 1,oP 60 (.bin .add (.t 59) (cI 1)),mV 1 60] (.seq (sR [mV 61 0,mV 62 5,oP 63 (.iad 7 (.t 61) (.t 62)),fD 64 5 63,lD 65 1 64,mV 66 1,bN 67 .neq 65 66] (cD 67 (sR [oP 4 (.mv (.c (.int .i64 (-1))))] .ret) .skip)) (sR [mV 68 1,oP 69 (.bin .add (.t 68) (cI 1)),mV 1 69] (.seq (.seq (.drw [0,0,3,7,15,0,32,127] [(0,mV 70 0),(1,mV 71 5),(2,oP 72 (.iad 7 (.t 70) (.t 71))),(3,fD 73 6 72),(4,lD 74 1 73),(5,mV 75 1),(6,oP 76 (.call 34 [.t 75])),(7,bN 77 .neq 74 76)]) (cD 77 (sR [oP 4 (.mv (.c (.int .i64 (-1))))] .ret) .skip)) (.reg [mV 78 1,oP 79 (.bin .add (.t 78) (cI 1)),mV 1 79]))))))))))))))) (.reg [mV 10 5,oP 11 (.bin .add (.t 10) (cI 1)),mV 5 11])))))) (sR [mV 80 1,mV 4 80] .ret))
theorem dg39:Dg Tryz.prog 39 Tryz.f39 ic39 [(.t 4)]:=⟨Tryz.func39,by kernel_rfl,by kernel_rfl⟩
set_option maxHeartbeats 2000000 in
theorem c39 (n:Nat) (k:Int) (hl:n≤1048576) (hk:0≤k∧k≤1000000000000):FnR Tryz.prog G 39 [.sl 7 ((mkS q3q 7 k n).map Pk.row),.int .i64 k] (.int .i64 (k+7*n)):=by
 refine mF dg39 Tryz.ntmps39 ?_
 have hn:(mkS q3q 7 k n).length=n:=q02 n
 simp only[ic39,go_sem,hn]
 with_reducible repeat' (first|refine br ?_ ?_<;>intro h e<;>(try simp only[e,go_sem,hn])<;>clear e|rw[q01 (by omega)]|refine sd ?_<;>try simp only[go_sem,hn]|fail)
 refine q0h (λi:Nat=>⟨q0e [(0,.sl 7 ((mkS q3q 7 k n).map Pk.row)),(1,.int .i64 (k+7*i)),(5,.int .i64 (i:Int))],q09 []⟩) (λi=>n - i) (λi=>i≤n) 0 (leN [] (by simp only[go_sem];first|done|simp) (by simp only[go_sem]) (by simp[q0b]) (by simp only[go_sem])) (Nat.zero_le _) ?_
 intro i hi
 simp only[go_sem,hn]
 by_cases h:(i:Int)<n
 ·have hg:(mkS q3q 7 k n).getD i default=q3q (k+7*i):=q84 (by omega)
  obtain⟨kk,hkk⟩:∃kk,k+7*(i:Int)=kk:=⟨_,rfl⟩
  have e3:k+7*((i+1:Nat):Int)=kk+7:=by omega
  have hkb:0≤kk∧kk≤2000000000000:=by omega
  rw[hkk] at hg
  simp only[hkk]
  simp only[eq_true h,go_sem,hn]
  with_reducible repeat' (first|rw[q01 (by omega)];try simp only[go_sem,hg,hn,q3q,Int.add_assoc,Int.reduceAdd,not_true_eq_false,decide_false]|refine br ?_ ?_<;>intro h e<;>(try simp only[e,go_sem,hg,hn,q3q,Int.add_assoc,Int.reduceAdd,not_true_eq_false,decide_false])<;>clear e|refine sd ?_<;>try simp only[go_sem,hg,hn,q3q,Int.add_assoc,Int.reduceAdd,not_true_eq_false,decide_false]|(first|refine cr (c34 _ (by omega)) ?_)<;>try simp only[go_sem,hg,hn,q3q,Int.add_assoc,Int.reduceAdd,not_true_eq_false,decide_false]|fail)
  exact⟨i+1,by omega,by omega,leN [] (by simp only[go_sem,e3];first|done|omega|rfl) (by simp only[go_sem]) (by simp[q0b]) (by simp only[go_sem])⟩
 ·simp only[eq_false h,go_sem]
  obtain rfl:i=n:=by omega
  with_reducible repeat' (first|refine br ?_ ?_<;>intro h e<;>(try simp only[e,go_sem])<;>clear e|rw[q01 (by omega)]|refine sd ?_<;>try simp only[go_sem]|fail)
  rfl
def ic37:IC:=sR [oP 4 (.mv (.c i0))] (.seq (sR [oP 5 (.mv (.c i0))] (.block 0 (.loop (.seq (sR [mV 6 5,mV 7 0,oP 8 (.len (.t 7)),bN 9 .lss 6 8] (cD 9 .skip (.exit 0))) (.seq (.block 1 (.seq (sR [mV 12 0,mV 13 5,oP 14 (.iad 10 (.t 12) (.t 13)),fD 15 0 14,fD 16 0 15,lD 17 1 16,mV 18 1,bN 19 .neq 17 18] (cD 19 (sR [oP 4 (.mv (.c (.int .i64 (-1))))] .ret) .skip)) (sR [mV 20 1,oP 21 (.bin .add (.t 20) (cI 1)),mV 1 21] (.seq (sR [mV 22 0,mV 23 5,oP 24 (.iad 10 (.t 22) (.t 23)),fD 25 0 24,fD 26 1 25,lD 27 1 26,mV 28 1,bN 29 .neq 27 28] (cD 29 (sR [oP 4 (.mv (.c (.int .i64 (-1))))] .ret) .skip)) (sR [mV 30 1,oP 31 (.bin .add (.t 30) (cI 1)),mV 1 31] (.seq (sR [mV 32 0,mV 33 5,oP 34 (.iad 10 (.t 32) (.t 33)),fD 35 2 34,fD 36 0 35,lD 37 1 36,mV 38 1,bN 39 .neq 37 38] (cD 39 (sR [oP 4 (.mv (.c (.int .i64 (-1))))] .ret) .skip)) (sR [mV 40 1,oP 41 (.bin .add (.t 40) (cI 1)),mV 1 41] (.seq (sR [mV 42 0,mV 43 5,oP 44 (.iad 10 (.t 42) (.t 43)),fD 45 2 44,fD 46 1 45,lD 47 1 46,mV 48 1,bN 49 .neq 47 48] (cD 49 (sR [oP 4 (.mv (.c (.int .i64 (-1))))] .ret) .skip)) (sR [mV 50 1,oP 51 (.bin .add (.t 50) (cI 1)),mV 1 51] (.seq (.seq (.drw [0,0,3,7,15,0,32,127] [(0,mV 52 0),(1,mV 53 5),(2,oP 54 (.iad 10 (.t 52) (.t 53))),(3,fD 55 4 54),(4,lD 56 1 55),(5,mV 57 1),(6,oP 58 (.call 34 [.t 57])),(7,bN 59 .neq 56 58)]) (cD 59 (sR [oP 4 (.mv (.c (.int .i64 (-1))))] .ret) .skip)) (sR [mV 60 1,oP 61 (.bin .add (.t 60) (cI 1)),mV 1 61] (.seq (.seq (.drw [0,0,3,7,15,0,32,127] [(0,mV 62 0),(1,mV 63 5),(2,oP 64 (.iad 10 (.t 62) (.t 63))),(3,fD 65 5 64),(4,lD 66 1 65),(5,mV 67 1),(6,oP 68 (.call 34 [.t 67])),(7,bN 69 .neq 66 68)]) (cD 69 (sR [oP 4 (.mv (.c (.int .i64 (-1))))] .ret) .skip)) (sR [mV 70 1,oP 71 (.bin .add (.t 70) (cI 1)),mV 1 71] (.seq (sR [mV 72 0,mV 73 5,oP 74 (.iad 10 (.t 72) (.t 73)),fD 75 6 74,lD 76 1 75,mV 77 1,bN 78 .neq 76 77] (cD 78 (sR [oP 4 (.mv (.c (.int .i64 (-1))))] .ret) .skip)) (sR [mV 79 1,oP 80 (.bin .add (.t 79) (cI 1)),mV 1 80] (.seq (sR [mV 81 0,mV 82 5,oP 83 (.iad 10 (.t 81) (.t 82)),fD 84 7 83,lD 85 1 84,mV 86 1,bN 87 .neq 85 86] (cD 87 (sR [oP 4 (.mv (.c (.int .i64 (-1))))] .ret) .skip)) (sR [mV 88 1,oP 89 (.bin .add (.t 88) (cI 1)),mV 1 89] (.seq (.seq (.drw [0,0,3,7,15,0,32,127] [(0,mV 90 0),(1,mV 91 5),(2,oP 92 (.iad 10 (.t 90) (.t 91))),(3,fD 93 8 92),(4,lD 94 1 93),(5,mV 95 1),(6,oP 96 (.call 34 [.t 95])),(7,bN 97 .neq 94 96)]) (cD 97 (sR [oP 4 (.mv (.c (.int .i64 (-1))))] .ret) .skip)) (sR [mV 98 1,oP 99 (.bin .add (.t 98) (cI 1)),mV 1 99] (.seq (.seq (.drw [0,0,3,7,15,0,32,127] [(0,mV 100 0),(1,mV 101 5),(2,oP 102 (.iad 10 (.t 100) (.t 101))),(3,fD 103 9 102),(4,lD 104 1 103),(5,mV 105 1),(6,oP 106 (.call 34 [.t 105])),(7,bN 107 .neq 104 106)]) (cD 107 (sR [oP 4 (.mv (.c (.int .i64 (-1))))] .ret) .skip)) (.reg [mV 108 1,oP 109 (.bin .add (.t 108) (cI 1)),mV 1 109]))))))))))))))))))))) (.reg [mV 10 5,oP 11 (.bin .add (.t 10) (cI 1)),mV 5 11])))))) (sR [mV 110 1,mV 4 110] .ret))
theorem dg37:Dg Tryz.prog 37 Tryz.f37 ic37 [(.t 4)]:=⟨Tryz.func37,by kernel_rfl,by kernel_rfl⟩
set_option maxHeartbeats 2000000 in
theorem c37 (n:Nat) (k:Int) (hl:n≤1048576) (hk:0≤k∧k≤1000000000000):FnR Tryz.prog G 37 [.sl 10 ((mkS mkC 10 k n).map Conv.row),.int .i64 k] (.int .i64 (k+10*n)):=by
 refine mF dg37 Tryz.ntmps37 ?_
 have hn:(mkS mkC 10 k n).length=n:=q02 n
 simp only[ic37,go_sem,hn]
 with_reducible repeat' (first|refine br ?_ ?_<;>intro h e<;>(try simp only[e,go_sem,hn])<;>clear e|rw[q01 (by omega)]|refine sd ?_<;>try simp only[go_sem,hn]|fail)
 refine q0h (λi:Nat=>⟨q0e [(0,.sl 10 ((mkS mkC 10 k n).map Conv.row)),(1,.int .i64 (k+10*i)),(5,.int .i64 (i:Int))],q09 []⟩) (λi=>n - i) (λi=>i≤n) 0 (leN [] (by simp only[go_sem];first|done|simp) (by simp only[go_sem]) (by simp[q0b]) (by simp only[go_sem])) (Nat.zero_le _) ?_
 intro i hi
 simp only[go_sem,hn]
 by_cases h:(i:Int)<n
 ·have hg:(mkS mkC 10 k n).getD i default=mkC (k+10*i):=q84 (by omega)
  obtain⟨kk,hkk⟩:∃kk,k+10*(i:Int)=kk:=⟨_,rfl⟩
  have e3:k+10*((i+1:Nat):Int)=kk+10:=by omega
  have hkb:0≤kk∧kk≤2000000000000:=by omega
  rw[hkk] at hg
  simp only[hkk]
  simp only[eq_true h,go_sem,hn]
  with_reducible repeat' (first|rw[q01 (by omega)];try simp only[go_sem,hg,hn,mkC,Int.add_assoc,Int.reduceAdd,not_true_eq_false,decide_false]|refine br ?_ ?_<;>intro h e<;>(try simp only[e,go_sem,hg,hn,mkC,Int.add_assoc,Int.reduceAdd,not_true_eq_false,decide_false])<;>clear e|refine sd ?_<;>try simp only[go_sem,hg,hn,mkC,Int.add_assoc,Int.reduceAdd,not_true_eq_false,decide_false]|(first|refine cr (c34 _ (by omega)) ?_)<;>try simp only[go_sem,hg,hn,mkC,Int.add_assoc,Int.reduceAdd,not_true_eq_false,decide_false]|fail)
  exact⟨i+1,by omega,by omega,leN [] (by simp only[go_sem,e3];first|done|omega|rfl) (by simp only[go_sem]) (by simp[q0b]) (by simp only[go_sem])⟩
 ·simp only[eq_false h,go_sem]
  obtain rfl:i=n:=by omega
  with_reducible repeat' (first|refine br ?_ ?_<;>intro h e<;>(try simp only[e,go_sem])<;>clear e|rw[q01 (by omega)]|refine sd ?_<;>try simp only[go_sem]|fail)
  rfl
def ic83:IC:=sR [oP 2 (.box 63 (.t 0)),oP 3 (.box 63 (.t 1)),oP 4 (.mv cF)] (.seq (sR [fD 5 0 2,lD 6 1 5,fD 7 0 3,lD 8 1 7,bN 9 .neq 6 8] (cD 9 (sR [oP 4 (.mv cF)] .ret) .skip)) (.seq (sR [fD 10 1 2,lD 11 1 10,fD 12 1 3,lD 13 1 12,bN 14 .neq 11 13] (cD 14 (sR [oP 4 (.mv cF)] .ret) .skip)) (sR [oP 4 (.mv cT)] .ret)))
theorem dg83:Dg Tryz.prog 83 Tryz.f83 ic83 [(.t 4)]:=⟨Tryz.func83,by kernel_rfl,by kernel_rfl⟩
theorem c83 (e:E):FnR Tryz.prog G 83 [.agg [.int .i64 e.a,.int .i64 e.p],.agg [.int .i64 e.a,.int .i64 e.p]] (.bool true):=by
 refine mF dg83 Tryz.ntmps83 ?_
 simp only[ic83,go_sem]
 with_reducible repeat' (first|refine br ?_ ?_<;>intro h e<;>(try simp only[e,go_sem])<;>clear e|rw[q01 (by omega)]|refine sd ?_<;>try simp only[go_sem]|fail)
def qs1:IC:=sR [oP 2 (.box 145 (.t 0)),oP 3 (.box 145 (.t 1)),oP 4 (.mv cF)] (.seq (sR [fD 5 0 2,lD 6 1 5,fD 7 0 3,lD 8 1 7,bN 9 .neq 6 8] (cD 9 (sR [oP 4 (.mv cF)] .ret) .skip)) (.seq (sR [fD 10 1 2,lA 11 2 10,fD 12 1 3,lA 13 2 12,oP 14 (.call 83 [.t 11,.t 13]),oP 15 (.un .not (.t 14))] (cD 15 (sR [oP 4 (.mv cF)] .ret) .skip)) (sR [oP 4 (.mv cT)] .ret)))
theorem dg137:Dg Tryz.prog 137 Tryz.f137 qs1 [(.t 4)]:=⟨Tryz.func137,by kernel_rfl,by kernel_rfl⟩
theorem c137 (x:Pair):FnR Tryz.prog G 137 [.agg [.int .i64 x.port,.int .i64 x.ins.a,.int .i64 x.ins.p],.agg [.int .i64 x.port,.int .i64 x.ins.a,.int .i64 x.ins.p]] (.bool true):=by
 refine mF dg137 Tryz.ntmps137 ?_
 simp only[qs1,go_sem]
 have c0:=c83 x.ins
 with_reducible repeat' (first|refine br ?_ ?_<;>intro h e<;>(try simp only[e,go_sem])<;>clear e|rw[q01 (by omega)]|refine sd ?_<;>try simp only[go_sem]|(first|refine cr (c0 ..) ?_)<;>try simp only[go_sem]|fail)
def ic80:IC:=sR [oP 4 (.mv cF)] (.seq (sR [mV 6 0,oP 7 (.len (.t 6)),mV 8 1,oP 9 (.len (.t 8)),bN 10 .neq 7 9] (cD 10 (sR [oP 4 (.mv cF)] .ret) .skip)) (.seq (sR [oP 5 (.mv (.c i0))] (.block 0 (.loop (.seq (sR [mV 11 5,mV 12 0,oP 13 (.len (.t 12)),bN 14 .lss 11 13] (cD 14 .skip (.exit 0))) (.seq (.block 1 (.seq (.drw [0,0,3,7,0,0,48,112,255,511] [(0,mV 17 0),(1,mV 18 5),(2,oP 19 (.iad 3 (.t 17) (.t 18))),(3,lA 20 3 19),(4,mV 21 1),(5,mV 22 5),(6,oP 23 (.iad 3 (.t 21) (.t 22))),(7,lA 24 3 23),(8,oP 25 (.call 137 [.t 20,.t 24])),(9,oP 26 (.un .not (.t 25)))]) (cD 26 (sR [oP 4 (.mv cF)] .ret) .skip))) (.reg [mV 15 5,oP 16 (.bin .add (.t 15) (cI 1)),mV 5 16])))))) (sR [oP 4 (.mv cT)] .ret)))
theorem dg80:Dg Tryz.prog 80 Tryz.f80 ic80 [(.t 4)]:=⟨Tryz.func80,by kernel_rfl,by kernel_rfl⟩
theorem c80 (l:List Pair) (hl:l.length≤2000000):FnR Tryz.prog G 80 [.sl 3 (l.map Pair.row),.sl 3 (l.map Pair.row)] (.bool true):=by
 refine mF dg80 Tryz.ntmps80 ?_
 simp only[ic80,go_sem]
 with_reducible repeat' (first|refine br ?_ ?_<;>intro h e<;>(try simp only[e,go_sem])<;>clear e|rw[q01 (by omega)]|refine sd ?_<;>try simp only[go_sem]|fail)
 refine q0h (λi:Nat=>⟨q0e [(0,.sl 3 (l.map Pair.row)),(1,.sl 3 (l.map Pair.row)),(5,.int .i64 (i:Int))],q09 []⟩) (λi=>l.length - i) (λi=>i≤l.length) 0 (leQ []) (Nat.zero_le _) ?_
 intro i hi
 simp only[go_sem]
 by_cases h:(i:Int)<l.length
 ·have hil:i<l.length:=by omega
  have hg:l.getD i default=l[i]:=by simp[List.getD,hil]
  have c1:=c137 l[i]
  simp only[eq_true h,go_sem]
  with_reducible repeat' (first|refine br ?_ ?_<;>intro h e<;>(try simp only[e,go_sem,hg])<;>clear e|rw[q01 (by omega)]|refine sd ?_<;>try simp only[go_sem,hg]|(first|refine cr (c1 ..) ?_)<;>try simp only[go_sem,hg]|fail)
  exact⟨i+1,by omega,by omega,(leQ [])⟩
 ·simp only[eq_false h,go_sem]
  with_reducible repeat' (first|refine br ?_ ?_<;>intro h e<;>(try simp only[e,go_sem])<;>clear e|rw[q01 (by omega)]|refine sd ?_<;>try simp only[go_sem]|fail)
def qsy:IC:=sR [oP 2 (.box 204 (.t 0)),oP 3 (.box 204 (.t 1)),oP 4 (.mv cF)] (.seq (sR [fD 5 0 2,lD 6 1 5,fD 7 0 3,lD 8 1 7,bN 9 .neq 6 8] (cD 9 (sR [oP 4 (.mv cF)] .ret) .skip)) (.seq (sR [fD 10 1 2,lD 11 1 10,fD 12 1 3,lD 13 1 12,bN 14 .neq 11 13] (cD 14 (sR [oP 4 (.mv cF)] .ret) .skip)) (sR [oP 4 (.mv cT)] .ret)))
theorem dg250:Dg Tryz.prog 250 Tryz.f250 qsy [(.t 4)]:=⟨Tryz.func250,by kernel_rfl,by kernel_rfl⟩
theorem c250 (x:Part):FnR Tryz.prog G 250 [.agg [.int .i64 x.size,.str x.text],.agg [.int .i64 x.size,.str x.text]] (.bool true):=by
 refine mF dg250 Tryz.ntmps250 ?_
 simp only[qsy,go_sem]
 with_reducible repeat' (first|refine br ?_ ?_<;>intro h e<;>(try simp only[e,go_sem])<;>clear e|rw[q01 (by omega)]|refine sd ?_<;>try simp only[go_sem]|fail)
def qtb:IC:=sR [oP 4 (.mv cF)] (.seq (sR [mV 6 0,oP 7 (.len (.t 6)),mV 8 1,oP 9 (.len (.t 8)),bN 10 .neq 7 9] (cD 10 (sR [oP 4 (.mv cF)] .ret) .skip)) (.seq (sR [oP 5 (.mv (.c i0))] (.block 0 (.loop (.seq (sR [mV 11 5,mV 12 0,oP 13 (.len (.t 12)),bN 14 .lss 11 13] (cD 14 .skip (.exit 0))) (.seq (.block 1 (.seq (.drw [0,0,3,7,0,0,48,112,255,511] [(0,mV 17 0),(1,mV 18 5),(2,oP 19 (.iad 2 (.t 17) (.t 18))),(3,lA 20 2 19),(4,mV 21 1),(5,mV 22 5),(6,oP 23 (.iad 2 (.t 21) (.t 22))),(7,lA 24 2 23),(8,oP 25 (.call 250 [.t 20,.t 24])),(9,oP 26 (.un .not (.t 25)))]) (cD 26 (sR [oP 4 (.mv cF)] .ret) .skip))) (.reg [mV 15 5,oP 16 (.bin .add (.t 15) (cI 1)),mV 5 16])))))) (sR [oP 4 (.mv cT)] .ret)))
theorem dg211:Dg Tryz.prog 211 Tryz.f211 qtb [(.t 4)]:=⟨Tryz.func211,by kernel_rfl,by kernel_rfl⟩
theorem c211 (l:List Part) (hl:l.length≤2000000):FnR Tryz.prog G 211 [.sl 2 (l.map Part.row),.sl 2 (l.map Part.row)] (.bool true):=by
 refine mF dg211 Tryz.ntmps211 ?_
 simp only[qtb,go_sem]
 with_reducible repeat' (first|refine br ?_ ?_<;>intro h e<;>(try simp only[e,go_sem])<;>clear e|rw[q01 (by omega)]|refine sd ?_<;>try simp only[go_sem]|fail)
 refine q0h (λi:Nat=>⟨q0e [(0,.sl 2 (l.map Part.row)),(1,.sl 2 (l.map Part.row)),(5,.int .i64 (i:Int))],q09 []⟩) (λi=>l.length - i) (λi=>i≤l.length) 0 (leQ []) (Nat.zero_le _) ?_
 intro i hi
 simp only[go_sem]
 by_cases h:(i:Int)<l.length
 ·have hil:i<l.length:=by omega
  have hg:l.getD i default=l[i]:=by simp[List.getD,hil]
  have c1:=c250 l[i]
  simp only[eq_true h,go_sem]
  with_reducible repeat' (first|refine br ?_ ?_<;>intro h e<;>(try simp only[e,go_sem,hg])<;>clear e|rw[q01 (by omega)]|refine sd ?_<;>try simp only[go_sem,hg]|(first|refine cr (c1 ..) ?_)<;>try simp only[go_sem,hg]|fail)
  exact⟨i+1,by omega,by omega,(leQ [])⟩
 ·simp only[eq_false h,go_sem]
  with_reducible repeat' (first|refine br ?_ ?_<;>intro h e<;>(try simp only[e,go_sem])<;>clear e|rw[q01 (by omega)]|refine sd ?_<;>try simp only[go_sem]|fail)
def ic82:IC:=sR [oP 2 (.box 65 (.t 0)),oP 3 (.box 65 (.t 1)),oP 4 (.mv cF)] (.seq (sR [fD 5 0 2,lD 6 1 5,fD 7 0 3,lD 8 1 7,bN 9 .neq 6 8] (cD 9 (sR [oP 4 (.mv cF)] .ret) .skip)) (.seq (sR [fD 10 1 2,lA 11 2 10,fD 12 1 3,lA 13 2 12,oP 14 (.call 83 [.t 11,.t 13]),oP 15 (.un .not (.t 14))] (cD 15 (sR [oP 4 (.mv cF)] .ret) .skip)) (.seq (sR [fD 16 3 2,lA 17 2 16,fD 18 3 3,lA 19 2 18,oP 20 (.call 83 [.t 17,.t 19]),oP 21 (.un .not (.t 20))] (cD 21 (sR [oP 4 (.mv cF)] .ret) .skip)) (.seq (sR [fD 22 5 2,lD 23 1 22,fD 24 5 3,lD 25 1 24,bN 26 .neq 23 25] (cD 26 (sR [oP 4 (.mv cF)] .ret) .skip)) (.seq (sR [fD 27 6 2,lD 28 1 27,fD 29 6 3,lD 30 1 29,bN 31 .neq 28 30] (cD 31 (sR [oP 4 (.mv cF)] .ret) .skip)) (sR [oP 4 (.mv cT)] .ret))))))
theorem dg82:Dg Tryz.prog 82 Tryz.f82 ic82 [(.t 4)]:=⟨Tryz.func82,by kernel_rfl,by kernel_rfl⟩
theorem c82 (x:Pk):FnR Tryz.prog G 82 [.agg [.int .i64 x.kind,.int .i64 x.frm.a,.int .i64 x.frm.p,.int .i64 x.to.a,.int .i64 x.to.p,.int .i64 x.at_,.str x.text],.agg [.int .i64 x.kind,.int .i64 x.frm.a,.int .i64 x.frm.p,.int .i64 x.to.a,.int .i64 x.to.p,.int .i64 x.at_,.str x.text]] (.bool true):=by
 refine mF dg82 Tryz.ntmps82 ?_
 simp only[ic82,go_sem]
 have c0:=c83 x.frm
 have c1:=c83 x.to
 with_reducible repeat' (first|refine br ?_ ?_<;>intro h e<;>(try simp only[e,go_sem])<;>clear e|rw[q01 (by omega)]|refine sd ?_<;>try simp only[go_sem]|(first|refine cr (c0 ..) ?_|refine cr (c1 ..) ?_)<;>try simp only[go_sem]|fail)
def ic31:IC:=sR [oP 4 (.mv cF)] (.seq (sR [mV 6 0,oP 7 (.len (.t 6)),mV 8 1,oP 9 (.len (.t 8)),bN 10 .neq 7 9] (cD 10 (sR [oP 4 (.mv cF)] .ret) .skip)) (.seq (sR [oP 5 (.mv (.c i0))] (.block 0 (.loop (.seq (sR [mV 11 5,mV 12 0,oP 13 (.len (.t 12)),bN 14 .lss 11 13] (cD 14 .skip (.exit 0))) (.seq (.block 1 (.seq (.drw [0,0,3,7,0,0,48,112,255,511] [(0,mV 17 0),(1,mV 18 5),(2,oP 19 (.iad 7 (.t 17) (.t 18))),(3,lA 20 7 19),(4,mV 21 1),(5,mV 22 5),(6,oP 23 (.iad 7 (.t 21) (.t 22))),(7,lA 24 7 23),(8,oP 25 (.call 82 [.t 20,.t 24])),(9,oP 26 (.un .not (.t 25)))]) (cD 26 (sR [oP 4 (.mv cF)] .ret) .skip))) (.reg [mV 15 5,oP 16 (.bin .add (.t 15) (cI 1)),mV 5 16])))))) (sR [oP 4 (.mv cT)] .ret)))
theorem dg31:Dg Tryz.prog 31 Tryz.f31 ic31 [(.t 4)]:=⟨Tryz.func31,by kernel_rfl,by kernel_rfl⟩
theorem c31 (l:List Pk) (hl:l.length≤2000000):FnR Tryz.prog G 31 [.sl 7 (l.map Pk.row),.sl 7 (l.map Pk.row)] (.bool true):=by
 refine mF dg31 Tryz.ntmps31 ?_
 simp only[ic31,go_sem]
 with_reducible repeat' (first|refine br ?_ ?_<;>intro h e<;>(try simp only[e,go_sem])<;>clear e|rw[q01 (by omega)]|refine sd ?_<;>try simp only[go_sem]|fail)
 refine q0h (λi:Nat=>⟨q0e [(0,.sl 7 (l.map Pk.row)),(1,.sl 7 (l.map Pk.row)),(5,.int .i64 (i:Int))],q09 []⟩) (λi=>l.length - i) (λi=>i≤l.length) 0 (leQ []) (Nat.zero_le _) ?_
 intro i hi
 simp only[go_sem]
 by_cases h:(i:Int)<l.length
 ·have hil:i<l.length:=by omega
  have hg:l.getD i default=l[i]:=by simp[List.getD,hil]
  have c1:=c82 l[i]
  simp only[eq_true h,go_sem]
  with_reducible repeat' (first|refine br ?_ ?_<;>intro h e<;>(try simp only[e,go_sem,hg])<;>clear e|rw[q01 (by omega)]|refine sd ?_<;>try simp only[go_sem,hg]|(first|refine cr (c1 ..) ?_)<;>try simp only[go_sem,hg]|fail)
  exact⟨i+1,by omega,by omega,(leQ [])⟩
 ·simp only[eq_false h,go_sem]
  with_reducible repeat' (first|refine br ?_ ?_<;>intro h e<;>(try simp only[e,go_sem])<;>clear e|rw[q01 (by omega)]|refine sd ?_<;>try simp only[go_sem]|fail)
def ic32:IC:=sR [oP 2 (.box 69 (.t 0)),oP 3 (.box 69 (.t 1)),oP 4 (.mv cF)] (.seq (sR [fD 5 0 2,lA 6 2 5,fD 7 0 3,lA 8 2 7,oP 9 (.call 83 [.t 6,.t 8]),oP 10 (.un .not (.t 9))] (cD 10 (sR [oP 4 (.mv cF)] .ret) .skip)) (.seq (sR [fD 11 2 2,lA 12 2 11,fD 13 2 3,lA 14 2 13,oP 15 (.call 83 [.t 12,.t 14]),oP 16 (.un .not (.t 15))] (cD 16 (sR [oP 4 (.mv cF)] .ret) .skip)) (.seq (sR [fD 17 4 2,lD 18 1 17,fD 19 4 3,lD 20 1 19,bN 21 .neq 18 20] (cD 21 (sR [oP 4 (.mv cF)] .ret) .skip)) (.seq (sR [fD 22 5 2,lD 23 1 22,fD 24 5 3,lD 25 1 24,bN 26 .neq 23 25] (cD 26 (sR [oP 4 (.mv cF)] .ret) .skip)) (.seq (sR [fD 27 6 2,lD 28 1 27,fD 29 6 3,lD 30 1 29,bN 31 .neq 28 30] (cD 31 (sR [oP 4 (.mv cF)] .ret) .skip)) (.seq (sR [fD 32 7 2,lD 33 1 32,fD 34 7 3,lD 35 1 34,bN 36 .neq 33 35] (cD 36 (sR [oP 4 (.mv cF)] .ret) .skip)) (.seq (sR [fD 37 8 2,lD 38 1 37,fD 39 8 3,lD 40 1 39,bN 41 .neq 38 40] (cD 41 (sR [oP 4 (.mv cF)] .ret) .skip)) (.seq (sR [fD 42 9 2,lD 43 1 42,fD 44 9 3,lD 45 1 44,bN 46 .neq 43 45] (cD 46 (sR [oP 4 (.mv cF)] .ret) .skip)) (sR [oP 4 (.mv cT)] .ret)))))))))
theorem dg32:Dg Tryz.prog 32 Tryz.f32 ic32 [(.t 4)]:=⟨Tryz.func32,by kernel_rfl,by kernel_rfl⟩
theorem c32 (x:Conv):FnR Tryz.prog G 32 [.agg [.int .i64 x.ins.a,.int .i64 x.ins.p,.int .i64 x.out.a,.int .i64 x.out.p,.str x.up,.str x.down,.int .i64 x.upAck,.int .i64 x.downAck,.str x.upGot,.str x.downGot],.agg [.int .i64 x.ins.a,.int .i64 x.ins.p,.int .i64 x.out.a,.int .i64 x.out.p,.str x.up,.str x.down,.int .i64 x.upAck,.int .i64 x.downAck,.str x.upGot,.str x.downGot]] (.bool true):=by
 refine mF dg32 Tryz.ntmps32 ?_
 simp only[ic32,go_sem]
 have c0:=c83 x.ins
 have c1:=c83 x.out
 with_reducible repeat' (first|refine br ?_ ?_<;>intro h e<;>(try simp only[e,go_sem])<;>clear e|rw[q01 (by omega)]|refine sd ?_<;>try simp only[go_sem]|(first|refine cr (c0 ..) ?_|refine cr (c1 ..) ?_)<;>try simp only[go_sem]|fail)
def ic12:IC:=sR [oP 4 (.mv cF)] (.seq (sR [mV 6 0,oP 7 (.len (.t 6)),mV 8 1,oP 9 (.len (.t 8)),bN 10 .neq 7 9] (cD 10 (sR [oP 4 (.mv cF)] .ret) .skip)) (.seq (sR [oP 5 (.mv (.c i0))] (.block 0 (.loop (.seq (sR [mV 11 5,mV 12 0,oP 13 (.len (.t 12)),bN 14 .lss 11 13] (cD 14 .skip (.exit 0))) (.seq (.block 1 (.seq (.drw [0,0,3,7,0,0,48,112,255,511] [(0,mV 17 0),(1,mV 18 5),(2,oP 19 (.iad 10 (.t 17) (.t 18))),(3,lA 20 10 19),(4,mV 21 1),(5,mV 22 5),(6,oP 23 (.iad 10 (.t 21) (.t 22))),(7,lA 24 10 23),(8,oP 25 (.call 32 [.t 20,.t 24])),(9,oP 26 (.un .not (.t 25)))]) (cD 26 (sR [oP 4 (.mv cF)] .ret) .skip))) (.reg [mV 15 5,oP 16 (.bin .add (.t 15) (cI 1)),mV 5 16])))))) (sR [oP 4 (.mv cT)] .ret)))
theorem dg12:Dg Tryz.prog 12 Tryz.f12 ic12 [(.t 4)]:=⟨Tryz.func12,by kernel_rfl,by kernel_rfl⟩
theorem c12 (l:List Conv) (hl:l.length≤2000000):FnR Tryz.prog G 12 [.sl 10 (l.map Conv.row),.sl 10 (l.map Conv.row)] (.bool true):=by
 refine mF dg12 Tryz.ntmps12 ?_
 simp only[ic12,go_sem]
 with_reducible repeat' (first|refine br ?_ ?_<;>intro h e<;>(try simp only[e,go_sem])<;>clear e|rw[q01 (by omega)]|refine sd ?_<;>try simp only[go_sem]|fail)
 refine q0h (λi:Nat=>⟨q0e [(0,.sl 10 (l.map Conv.row)),(1,.sl 10 (l.map Conv.row)),(5,.int .i64 (i:Int))],q09 []⟩) (λi=>l.length - i) (λi=>i≤l.length) 0 (leQ []) (Nat.zero_le _) ?_
 intro i hi
 simp only[go_sem]
 by_cases h:(i:Int)<l.length
 ·have hil:i<l.length:=by omega
  have hg:l.getD i default=l[i]:=by simp[List.getD,hil]
  have c1:=c32 l[i]
  simp only[eq_true h,go_sem]
  with_reducible repeat' (first|refine br ?_ ?_<;>intro h e<;>(try simp only[e,go_sem,hg])<;>clear e|rw[q01 (by omega)]|refine sd ?_<;>try simp only[go_sem,hg]|(first|refine cr (c1 ..) ?_)<;>try simp only[go_sem,hg]|fail)
  exact⟨i+1,by omega,by omega,(leQ [])⟩
 ·simp only[eq_false h,go_sem]
  with_reducible repeat' (first|refine br ?_ ?_<;>intro h e<;>(try simp only[e,go_sem])<;>clear e|rw[q01 (by omega)]|refine sd ?_<;>try simp only[go_sem]|fail)
def ic33:IC:=sR [oP 2 (.box 67 (.t 0)),oP 3 (.box 67 (.t 1)),oP 4 (.mv cF)] (.seq (sR [fD 5 0 2,lD 6 1 5,fD 7 0 3,lD 8 1 7,bN 9 .neq 6 8] (cD 9 (sR [oP 4 (.mv cF)] .ret) .skip)) (.seq (sR [fD 10 1 2,lD 11 1 10,fD 12 1 3,lD 13 1 12,bN 14 .neq 11 13] (cD 14 (sR [oP 4 (.mv cF)] .ret) .skip)) (.seq (sR [fD 15 2 2,lD 16 1 15,fD 17 2 3,lD 18 1 17,bN 19 .neq 16 18] (cD 19 (sR [oP 4 (.mv cF)] .ret) .skip)) (.seq (sR [fD 20 3 2,lD 21 1 20,fD 22 3 3,lD 23 1 22,bN 24 .neq 21 23] (cD 24 (sR [oP 4 (.mv cF)] .ret) .skip)) (.seq (sR [fD 25 4 2,lA 26 7 25,fD 27 4 3,lA 28 7 27,oP 29 (.call 82 [.t 26,.t 28]),oP 30 (.un .not (.t 29))] (cD 30 (sR [oP 4 (.mv cF)] .ret) .skip)) (sR [oP 4 (.mv cT)] .ret))))))
theorem dg33:Dg Tryz.prog 33 Tryz.f33 ic33 [(.t 4)]:=⟨Tryz.func33,by kernel_rfl,by kernel_rfl⟩
theorem c33 (x:Ev):FnR Tryz.prog G 33 [.agg [.int .i64 x.kind,.int .i64 x.a,.int .i64 x.b,.int .i64 x.c,.int .i64 x.pkt.kind,.int .i64 x.pkt.frm.a,.int .i64 x.pkt.frm.p,.int .i64 x.pkt.to.a,.int .i64 x.pkt.to.p,.int .i64 x.pkt.at_,.str x.pkt.text],.agg [.int .i64 x.kind,.int .i64 x.a,.int .i64 x.b,.int .i64 x.c,.int .i64 x.pkt.kind,.int .i64 x.pkt.frm.a,.int .i64 x.pkt.frm.p,.int .i64 x.pkt.to.a,.int .i64 x.pkt.to.p,.int .i64 x.pkt.at_,.str x.pkt.text]] (.bool true):=by
 refine mF dg33 Tryz.ntmps33 ?_
 simp only[ic33,go_sem]
 have c0:=c82 x.pkt
 with_reducible repeat' (first|refine br ?_ ?_<;>intro h e<;>(try simp only[e,go_sem])<;>clear e|rw[q01 (by omega)]|refine sd ?_<;>try simp only[go_sem]|(first|refine cr (c0 ..) ?_)<;>try simp only[go_sem]|fail)
def ic13:IC:=sR [oP 4 (.mv cF)] (.seq (sR [mV 6 0,oP 7 (.len (.t 6)),mV 8 1,oP 9 (.len (.t 8)),bN 10 .neq 7 9] (cD 10 (sR [oP 4 (.mv cF)] .ret) .skip)) (.seq (sR [oP 5 (.mv (.c i0))] (.block 0 (.loop (.seq (sR [mV 11 5,mV 12 0,oP 13 (.len (.t 12)),bN 14 .lss 11 13] (cD 14 .skip (.exit 0))) (.seq (.block 1 (.seq (.drw [0,0,3,7,0,0,48,112,255,511] [(0,mV 17 0),(1,mV 18 5),(2,oP 19 (.iad 11 (.t 17) (.t 18))),(3,lA 20 11 19),(4,mV 21 1),(5,mV 22 5),(6,oP 23 (.iad 11 (.t 21) (.t 22))),(7,lA 24 11 23),(8,oP 25 (.call 33 [.t 20,.t 24])),(9,oP 26 (.un .not (.t 25)))]) (cD 26 (sR [oP 4 (.mv cF)] .ret) .skip))) (.reg [mV 15 5,oP 16 (.bin .add (.t 15) (cI 1)),mV 5 16])))))) (sR [oP 4 (.mv cT)] .ret)))
theorem dg13:Dg Tryz.prog 13 Tryz.f13 ic13 [(.t 4)]:=⟨Tryz.func13,by kernel_rfl,by kernel_rfl⟩
theorem c13 (l:List Ev) (hl:l.length≤2000000):FnR Tryz.prog G 13 [.sl 11 (l.map Ev.row),.sl 11 (l.map Ev.row)] (.bool true):=by
 refine mF dg13 Tryz.ntmps13 ?_
 simp only[ic13,go_sem]
 with_reducible repeat' (first|refine br ?_ ?_<;>intro h e<;>(try simp only[e,go_sem])<;>clear e|rw[q01 (by omega)]|refine sd ?_<;>try simp only[go_sem]|fail)
 refine q0h (λi:Nat=>⟨q0e [(0,.sl 11 (l.map Ev.row)),(1,.sl 11 (l.map Ev.row)),(5,.int .i64 (i:Int))],q09 []⟩) (λi=>l.length - i) (λi=>i≤l.length) 0 (leQ []) (Nat.zero_le _) ?_
 intro i hi
 simp only[go_sem]
 by_cases h:(i:Int)<l.length
 ·have hil:i<l.length:=by omega
  have hg:l.getD i default=l[i]:=by simp[List.getD,hil]
  have c1:=c33 l[i]
  simp only[eq_true h,go_sem]
  with_reducible repeat' (first|refine br ?_ ?_<;>intro h e<;>(try simp only[e,go_sem,hg])<;>clear e|rw[q01 (by omega)]|refine sd ?_<;>try simp only[go_sem,hg]|(first|refine cr (c1 ..) ?_)<;>try simp only[go_sem,hg]|fail)
  exact⟨i+1,by omega,by omega,(leQ [])⟩
 ·simp only[eq_false h,go_sem]
  with_reducible repeat' (first|refine br ?_ ?_<;>intro h e<;>(try simp only[e,go_sem])<;>clear e|rw[q01 (by omega)]|refine sd ?_<;>try simp only[go_sem]|fail)
end Go.Proofs.YtpnekhiejecipaaGreatDoor.W
namespace Go.Proofs.YtpnekhiejecipaaGreatDoor.W
open Go Go.RowKit Go.Proofs Go.Proofs.YtpnekhiejecipaaGreatDoor.VL Go.Proofs.YtpnekhiejecipaaGreatDoor.M
attribute [local go_sem] q2w qk2 Nat.reduceLT Nat.reduceMul Int.reduceToNat
def ptB (f:Flw):Prop:=f.up.parts.length≤1048576∧f.down.parts.length≤1048576
theorem k11 (k:Int):k+1+1=k+2:=by omega
theorem k21 (k:Int):k+2+1=k+3:=by omega
theorem k31 (k:Int):k+3+1=k+4:=by omega
theorem k41 (k:Int):k+4+1=k+5:=by omega
def qps:IC:=sR [oP 2 (.box 167 (.t 0)),oP 3 (.box 167 (.t 1)),oP 4 (.mv cF)] (.seq (sR [fD 5 0 2,lD 6 1 5,fD 7 0 3,lD 8 1 7,bN 9 .neq 6 8] (cD 9 (sR [oP 4 (.mv cF)] .ret) .skip)) (.seq (sR [fD 10 1 2,lD 11 1 10,fD 12 1 3,lD 13 1 12,oP 14 (.call 211 [.t 11,.t 13]),oP 15 (.un .not (.t 14))] (cD 15 (sR [oP 4 (.mv cF)] .ret) .skip)) (sR [oP 4 (.mv cT)] .ret)))
theorem dg176:Dg Tryz.prog 176 Tryz.f176 qps [(.t 4)]:=⟨Tryz.func176,by kernel_rfl,by kernel_rfl⟩
theorem c176 (s:Strm) (h:s.parts.length≤2000000):FnR Tryz.prog G 176 [.agg [.str s.inn,.sl 2 (s.parts.map Part.row)],.agg [.str s.inn,.sl 2 (s.parts.map Part.row)]] (.bool true):=by
 refine mF dg176 Tryz.ntmps176 ?_
 have c1:=c211 s.parts h
 simp only[qps,go_sem]
 with_reducible repeat' (first|refine br ?_ ?_<;>intro h e<;>(try simp only[e,go_sem])<;>clear e|rw[q01 (by omega)]|refine sd ?_<;>try simp only[go_sem]|(first|refine cr (c1 ..) ?_)<;>try simp only[go_sem]|fail)
def qsg:IC:=sR [oP 2 (.box 169 (.t 0)),oP 3 (.box 169 (.t 1)),oP 4 (.mv cF)] (.seq (sR [fD 5 0 2,lA 6 2 5,fD 7 0 3,lA 8 2 7,oP 9 (.call 83 [.t 6,.t 8]),oP 10 (.un .not (.t 9))] (cD 10 (sR [oP 4 (.mv cF)] .ret) .skip)) (.seq (sR [fD 11 2 2,lA 12 2 11,fD 13 2 3,lA 14 2 13,oP 15 (.call 83 [.t 12,.t 14]),oP 16 (.un .not (.t 15))] (cD 16 (sR [oP 4 (.mv cF)] .ret) .skip)) (.seq (sR [fD 17 4 2,lA 18 2 17,fD 19 4 3,lA 20 2 19,oP 21 (.call 176 [.t 18,.t 20]),oP 22 (.un .not (.t 21))] (cD 22 (sR [oP 4 (.mv cF)] .ret) .skip)) (.seq (sR [fD 23 6 2,lA 24 2 23,fD 25 6 3,lA 26 2 25,oP 27 (.call 176 [.t 24,.t 26]),oP 28 (.un .not (.t 27))] (cD 28 (sR [oP 4 (.mv cF)] .ret) .skip)) (sR [oP 4 (.mv cT)] .ret)))))
theorem dg138:Dg Tryz.prog 138 Tryz.f138 qsg [(.t 4)]:=⟨Tryz.func138,by kernel_rfl,by kernel_rfl⟩
theorem c138 (f:Flw) (h:ptB f):FnR Tryz.prog G 138 [.agg (Flw.row f),.agg (Flw.row f)] (.bool true):=by
 refine mF dg138 Tryz.ntmps138 ?_
 obtain⟨h1,h2⟩:=h
 have c1:=c83 f.ins
 have c2:=c83 f.out
 have c3:=c176 f.up (by omega)
 have c4:=c176 f.down (by omega)
 simp only[qsg,go_sem]
 with_reducible repeat' (first|refine br ?_ ?_<;>intro h e<;>(try simp only[e,go_sem])<;>clear e|rw[q01 (by omega)]|refine sd ?_<;>try simp only[go_sem]|(first|refine cr (c1 ..) ?_|refine cr (c2 ..) ?_|refine cr (c3 ..) ?_|refine cr (c4 ..) ?_)<;>try simp only[go_sem]|fail)
def qqq:IC:=sR [oP 4 (.mv cF)] (.seq (sR [mV 6 0,oP 7 (.len (.t 6)),mV 8 1,oP 9 (.len (.t 8)),bN 10 .neq 7 9] (cD 10 (sR [oP 4 (.mv cF)] .ret) .skip)) (.seq (sR [oP 5 (.mv (.c i0))] (.block 0 (.loop (.seq (sR [mV 11 5,mV 12 0,oP 13 (.len (.t 12)),bN 14 .lss 11 13] (cD 14 .skip (.exit 0))) (.seq (.block 1 (.seq (.drw [0,0,3,7,0,0,48,112,255,511] [(0,mV 17 0),(1,mV 18 5),(2,oP 19 (.iad 8 (.t 17) (.t 18))),(3,lA 20 8 19),(4,mV 21 1),(5,mV 22 5),(6,oP 23 (.iad 8 (.t 21) (.t 22))),(7,lA 24 8 23),(8,oP 25 (.call 138 [.t 20,.t 24])),(9,oP 26 (.un .not (.t 25)))]) (cD 26 (sR [oP 4 (.mv cF)] .ret) .skip))) (.reg [mV 15 5,oP 16 (.bin .add (.t 15) (cI 1)),mV 5 16])))))) (sR [oP 4 (.mv cT)] .ret)))
theorem dg81:Dg Tryz.prog 81 Tryz.f81 qqq [(.t 4)]:=⟨Tryz.func81,by kernel_rfl,by kernel_rfl⟩
theorem c81 (l:List Flw) (hl:l.length≤2000000) (hb:∀f∈l,ptB f):FnR Tryz.prog G 81 [.sl 8 (l.map Flw.row),.sl 8 (l.map Flw.row)] (.bool true):=by
 refine mF dg81 Tryz.ntmps81 ?_
 simp only[qqq,go_sem]
 with_reducible repeat' (first|refine br ?_ ?_<;>intro h e<;>(try simp only[e,go_sem])<;>clear e|rw[q01 (by omega)]|refine sd ?_<;>try simp only[go_sem]|fail)
 refine q0h (λi:Nat=>⟨q0e [(0,.sl 8 (l.map Flw.row)),(1,.sl 8 (l.map Flw.row)),(5,.int .i64 (i:Int))],q09 []⟩) (λi=>l.length - i) (λi=>i≤l.length) 0 (leQ []) (Nat.zero_le _) ?_
 intro i hi
 simp only[go_sem]
 by_cases h:(i:Int)<l.length
 ·have hil:i<l.length:=by omega
  have hg:l.getD i default=l[i]:=by simp[List.getD,hil]
  have c1:=c138 l[i] (hb _ (List.getElem_mem hil))
  simp only[Flw.row] at c1
  simp only[eq_true h,go_sem]
  with_reducible repeat' (first|refine br ?_ ?_<;>intro h e<;>(try simp only[e,go_sem,hg])<;>clear e|rw[q01 (by omega)]|refine sd ?_<;>try simp only[go_sem,hg]|(first|refine cr (c1 ..) ?_)<;>try simp only[go_sem,hg]|fail)
  exact⟨i+1,by omega,by omega,(leQ [])⟩
 ·simp only[eq_false h,go_sem]
  with_reducible repeat' (first|refine br ?_ ?_<;>intro h e<;>(try simp only[e,go_sem])<;>clear e|rw[q01 (by omega)]|refine sd ?_<;>try simp only[go_sem]|fail)
def qr7:IC:=sR [oP 2 (.box 30 (.t 0)),oP 3 (.box 30 (.t 1)),oP 4 (.mv cF)] (.seq (sR [fD 5 0 2,lD 6 1 5,fD 7 0 3,lD 8 1 7,oP 9 (.call 80 [.t 6,.t 8]),oP 10 (.un .not (.t 9))] (cD 10 (sR [oP 4 (.mv cF)] .ret) .skip)) (.seq (sR [fD 11 1 2,lD 12 1 11,fD 13 1 3,lD 14 1 13,oP 15 (.call 81 [.t 12,.t 14]),oP 16 (.un .not (.t 15))] (cD 16 (sR [oP 4 (.mv cF)] .ret) .skip)) (sR [oP 4 (.mv cT)] .ret)))
theorem dg30:Dg Tryz.prog 30 Tryz.f30 qr7 [(.t 4)]:=⟨Tryz.func30,by kernel_rfl,by kernel_rfl⟩
theorem c30 (d:Door) (h1:d.map.length≤2000000) (h2:d.flows.length≤2000000) (hb:∀f∈d.flows,ptB f):FnR Tryz.prog G 30 [.agg [.sl 3 (d.map.map Pair.row),.sl 8 (d.flows.map Flw.row)],.agg [.sl 3 (d.map.map Pair.row),.sl 8 (d.flows.map Flw.row)]] (.bool true):=by
 refine mF dg30 Tryz.ntmps30 ?_
 have c1:=c80 d.map h1
 have c2:=c81 d.flows h2 hb
 simp only[qr7,go_sem]
 with_reducible repeat' (first|refine br ?_ ?_<;>intro h e<;>(try simp only[e,go_sem])<;>clear e|rw[q01 (by omega)]|refine sd ?_<;>try simp only[go_sem]|(first|refine cr (c1 ..) ?_|refine cr (c2 ..) ?_)<;>try simp only[go_sem]|fail)
def qvk:IC:=sR [oP 2 (.box 33 (.t 0)),oP 3 (.box 33 (.t 1)),oP 4 (.mv cF)] (.seq (sR [fD 5 0 2,lD 6 1 5,fD 7 0 3,lD 8 1 7,oP 9 (.call 12 [.t 6,.t 8]),oP 10 (.un .not (.t 9))] (cD 10 (sR [oP 4 (.mv cF)] .ret) .skip)) (.seq (sR [fD 11 1 2,lA 12 2 11,fD 13 1 3,lA 14 2 13,oP 15 (.call 30 [.t 12,.t 14]),oP 16 (.un .not (.t 15))] (cD 16 (sR [oP 4 (.mv cF)] .ret) .skip)) (.seq (sR [fD 17 3 2,lD 18 1 17,fD 19 3 3,lD 20 1 19,oP 21 (.call 31 [.t 18,.t 20]),oP 22 (.un .not (.t 21))] (cD 22 (sR [oP 4 (.mv cF)] .ret) .skip)) (sR [oP 4 (.mv cT)] .ret))))
theorem dg11:Dg Tryz.prog 11 Tryz.f11 qvk [(.t 4)]:=⟨Tryz.func11,by kernel_rfl,by kernel_rfl⟩
theorem c11 (w:M.World) (h0:w.convs.length≤2000000) (h1:w.door.map.length≤2000000) (h2:w.door.flows.length≤2000000) (h3:w.nets.length≤2000000) (hb:∀f∈w.door.flows,ptB f):FnR Tryz.prog G 11 [.agg [.sl 10 (w.convs.map Conv.row),.sl 3 (w.door.map.map Pair.row),.sl 8 (w.door.flows.map Flw.row),.sl 7 (w.nets.map Pk.row)],.agg [.sl 10 (w.convs.map Conv.row),.sl 3 (w.door.map.map Pair.row),.sl 8 (w.door.flows.map Flw.row),.sl 7 (w.nets.map Pk.row)]] (.bool true):=by
 refine mF dg11 Tryz.ntmps11 ?_
 have c1:=c12 w.convs h0
 have c2:=c30 w.door h1 h2 hb
 have c3:=c31 w.nets h3
 simp only[qvk,go_sem]
 with_reducible repeat' (first|refine br ?_ ?_<;>intro h e<;>(try simp only[e,go_sem])<;>clear e|rw[q01 (by omega)]|refine sd ?_<;>try simp only[go_sem]|(first|refine cr (c1 ..) ?_|refine cr (c2 ..) ?_|refine cr (c3 ..) ?_)<;>try simp only[go_sem]|fail)
def qpt:IC:=sR [oP 4 (.mv (.c i0))] (.seq (sR [oP 5 (.mv (.c i0))] (.block 0 (.loop (.seq (sR [mV 6 5,mV 7 0,oP 8 (.len (.t 7)),bN 9 .lss 6 8] (cD 9 .skip (.exit 0))) (.seq (.block 1 (sR [mV 12 0,mV 13 5,mV 14 1,oP 15 (.iad 8 (.t 12) (.t 13)),fD 16 0 15,fD 17 0 16,nP (.sto 1 (.t 17) (.t 14))] (sR [mV 18 1,oP 19 (.bin .add (.t 18) (cI 1)),mV 1 19] (sR [mV 20 0,mV 21 5,mV 22 1,oP 23 (.iad 8 (.t 20) (.t 21)),fD 24 0 23,fD 25 1 24,nP (.sto 1 (.t 25) (.t 22))] (sR [mV 26 1,oP 27 (.bin .add (.t 26) (cI 1)),mV 1 27] (sR [mV 28 0,mV 29 5,mV 30 1,oP 31 (.iad 8 (.t 28) (.t 29)),fD 32 2 31,fD 33 0 32,nP (.sto 1 (.t 33) (.t 30))] (sR [mV 34 1,oP 35 (.bin .add (.t 34) (cI 1)),mV 1 35] (sR [mV 36 0,mV 37 5,mV 38 1,oP 39 (.iad 8 (.t 36) (.t 37)),fD 40 2 39,fD 41 1 40,nP (.sto 1 (.t 41) (.t 38))] (sR [mV 42 1,oP 43 (.bin .add (.t 42) (cI 1)),mV 1 43] (sR [mV 44 0,mV 45 5,mV 46 1,oP 47 (.call 34 [.t 46]),oP 48 (.iad 8 (.t 44) (.t 45)),fD 49 4 48,fD 50 0 49,nP (.sto 1 (.t 50) (.t 47))] (sR [mV 51 1,oP 52 (.bin .add (.t 51) (cI 1)),mV 1 52] (sR [mV 53 0,mV 54 5,oP 55 (.iad 8 (.t 53) (.t 54)),fD 56 4 55,fD 57 1 56,lD 58 1 57,mV 59 1,oP 60 (.call 139 [.t 58,.t 59]),mV 1 60] (sR [mV 61 0,mV 62 5,mV 63 1,oP 64 (.call 34 [.t 63]),oP 65 (.iad 8 (.t 61) (.t 62)),fD 66 6 65,fD 67 0 66,nP (.sto 1 (.t 67) (.t 64))] (sR [mV 68 1,oP 69 (.bin .add (.t 68) (cI 1)),mV 1 69] (.reg [mV 70 0,mV 71 5,oP 72 (.iad 8 (.t 70) (.t 71)),fD 73 6 72,fD 74 1 73,lD 75 1 74,mV 76 1,oP 77 (.call 139 [.t 75,.t 76]),mV 1 77]))))))))))))))) (.reg [mV 10 5,oP 11 (.bin .add (.t 10) (cI 1)),mV 5 11])))))) (sR [mV 78 1,mV 4 78] .ret))
theorem dg85:Dg Tryz.prog 85 Tryz.f85 qpt [(.t 4)]:=⟨Tryz.func85,by kernel_rfl,by kernel_rfl⟩
def qpv:IC:=sR [oP 4 (.mv (.c i0))] (.seq (sR [oP 5 (.mv (.c i0))] (.block 0 (.loop (.seq (sR [mV 6 5,mV 7 0,oP 8 (.len (.t 7)),bN 9 .lss 6 8] (cD 9 .skip (.exit 0))) (.seq (.block 1 (.seq (sR [mV 12 0,mV 13 5,oP 14 (.iad 8 (.t 12) (.t 13)),fD 15 0 14,fD 16 0 15,lD 17 1 16,mV 18 1,bN 19 .neq 17 18] (cD 19 (sR [oP 4 (.mv (.c (.int .i64 (-1))))] .ret) .skip)) (sR [mV 20 1,oP 21 (.bin .add (.t 20) (cI 1)),mV 1 21] (.seq (sR [mV 22 0,mV 23 5,oP 24 (.iad 8 (.t 22) (.t 23)),fD 25 0 24,fD 26 1 25,lD 27 1 26,mV 28 1,bN 29 .neq 27 28] (cD 29 (sR [oP 4 (.mv (.c (.int .i64 (-1))))] .ret) .skip)) (sR [mV 30 1,oP 31 (.bin .add (.t 30) (cI 1)),mV 1 31] (.seq (sR [mV 32 0,mV 33 5,oP 34 (.iad 8 (.t 32) (.t 33)),fD 35 2 34,fD 36 0 35,lD 37 1 36,mV 38 1,bN 39 .neq 37 38] (cD 39 (sR [oP 4 (.mv (.c (.int .i64 (-1))))] .ret) .skip)) (sR [mV 40 1,oP 41 (.bin .add (.t 40) (cI 1)),mV 1 41] (.seq (sR [mV 42 0,mV 43 5,oP 44 (.iad 8 (.t 42) (.t 43)),fD 45 2 44,fD 46 1 45,lD 47 1 46,mV 48 1,bN 49 .neq 47 48] (cD 49 (sR [oP 4 (.mv (.c (.int .i64 (-1))))] .ret) .skip)) (sR [mV 50 1,oP 51 (.bin .add (.t 50) (cI 1)),mV 1 51] (.seq (.seq (.drw [0,0,3,7,15,31,0,64,255] [(0,mV 52 0),(1,mV 53 5),(2,oP 54 (.iad 8 (.t 52) (.t 53))),(3,fD 55 4 54),(4,fD 56 0 55),(5,lD 57 1 56),(6,mV 58 1),(7,oP 59 (.call 34 [.t 58])),(8,bN 60 .neq 57 59)]) (cD 60 (sR [oP 4 (.mv (.c (.int .i64 (-1))))] .ret) .skip)) (sR [mV 61 1,oP 62 (.bin .add (.t 61) (cI 1)),mV 1 62] (sR [mV 63 0,mV 64 5,oP 65 (.iad 8 (.t 63) (.t 64)),fD 66 4 65,fD 67 1 66,lD 68 1 67,mV 69 1,oP 70 (.call 140 [.t 68,.t 69]),mV 1 70] (.seq (sR [mV 71 1,oP 72 (.bin .lss (.t 71) (.c i0))] (cD 72 (sR [oP 4 (.mv (.c (.int .i64 (-1))))] .ret) .skip)) (.seq (.seq (.drw [0,0,3,7,15,31,0,64,255] [(0,mV 73 0),(1,mV 74 5),(2,oP 75 (.iad 8 (.t 73) (.t 74))),(3,fD 76 6 75),(4,fD 77 0 76),(5,lD 78 1 77),(6,mV 79 1),(7,oP 80 (.call 34 [.t 79])),(8,bN 81 .neq 78 80)]) (cD 81 (sR [oP 4 (.mv (.c (.int .i64 (-1))))] .ret) .skip)) (sR [mV 82 1,oP 83 (.bin .add (.t 82) (cI 1)),mV 1 83] (sR [mV 84 0,mV 85 5,oP 86 (.iad 8 (.t 84) (.t 85)),fD 87 6 86,fD 88 1 87,lD 89 1 88,mV 90 1,oP 91 (.call 140 [.t 89,.t 90]),mV 1 91] (sR [mV 92 1,oP 93 (.bin .lss (.t 92) (.c i0))] (cD 93 (sR [oP 4 (.mv (.c (.int .i64 (-1))))] .ret) .skip)))))))))))))))))) (.reg [mV 10 5,oP 11 (.bin .add (.t 10) (cI 1)),mV 5 11])))))) (sR [mV 94 1,mV 4 94] .ret))
theorem dg87:Dg Tryz.prog 87 Tryz.f87 qpv [(.t 4)]:=⟨Tryz.func87,by kernel_rfl,by kernel_rfl⟩
def qvv:IC:=sR [oP 2 (.box 30 (.t 0)),oP 4 (.mv (.c i0))] (sR [fD 5 0 2,lD 6 1 5,mV 7 1,oP 8 (.call 84 [.t 6,.t 7]),mV 1 8] (sR [fD 9 1 2,lD 10 1 9,mV 11 1,oP 12 (.call 85 [.t 10,.t 11]),mV 1 12] (sR [mV 13 1,mV 4 13] .ret)))
theorem dg35:Dg Tryz.prog 35 Tryz.f35 qvv [(.t 4)]:=⟨Tryz.func35,by kernel_rfl,by kernel_rfl⟩
def qta:IC:=sR [oP 2 (.box 30 (.t 0)),oP 4 (.mv (.c i0))] (sR [fD 5 0 2,lD 6 1 5,mV 7 1,oP 8 (.call 86 [.t 6,.t 7]),mV 1 8] (.seq (sR [mV 9 1,oP 10 (.bin .lss (.t 9) (.c i0))] (cD 10 (sR [oP 4 (.mv (.c (.int .i64 (-1))))] .ret) .skip)) (sR [fD 11 1 2,lD 12 1 11,mV 13 1,oP 14 (.call 87 [.t 12,.t 13]),mV 1 14] (.seq (sR [mV 15 1,oP 16 (.bin .lss (.t 15) (.c i0))] (cD 16 (sR [oP 4 (.mv (.c (.int .i64 (-1))))] .ret) .skip)) (sR [mV 17 1,mV 4 17] .ret)))))
theorem dg38:Dg Tryz.prog 38 Tryz.f38 qta [(.t 4)]:=⟨Tryz.func38,by kernel_rfl,by kernel_rfl⟩
def qu1:IC:=sR [oP 2 (.box 33 (.t 0)),oP 4 (.mv (.c i0))] (sR [fD 5 0 2,lD 6 1 5,mV 7 1,oP 8 (.call 14 [.t 6,.t 7]),mV 1 8] (sR [fD 9 1 2,lA 10 2 9,mV 11 1,oP 12 (.call 35 [.t 10,.t 11]),mV 1 12] (sR [fD 13 3 2,lD 14 1 13,mV 15 1,oP 16 (.call 36 [.t 14,.t 15]),mV 1 16] (sR [mV 17 1,mV 4 17] .ret))))
theorem dg16:Dg Tryz.prog 16 Tryz.f16 qu1 [(.t 4)]:=⟨Tryz.func16,by kernel_rfl,by kernel_rfl⟩
def qx3:IC:=sR [oP 2 (.box 33 (.t 0)),oP 4 (.mv (.c i0))] (sR [fD 5 0 2,lD 6 1 5,mV 7 1,oP 8 (.call 37 [.t 6,.t 7]),mV 1 8] (.seq (sR [mV 9 1,oP 10 (.bin .lss (.t 9) (.c i0))] (cD 10 (sR [oP 4 (.mv (.c (.int .i64 (-1))))] .ret) .skip)) (sR [fD 11 1 2,lA 12 2 11,mV 13 1,oP 14 (.call 38 [.t 12,.t 13]),mV 1 14] (.seq (sR [mV 15 1,oP 16 (.bin .lss (.t 15) (.c i0))] (cD 16 (sR [oP 4 (.mv (.c (.int .i64 (-1))))] .ret) .skip)) (sR [fD 17 3 2,lD 18 1 17,mV 19 1,oP 20 (.call 39 [.t 18,.t 19]),mV 1 20] (.seq (sR [mV 21 1,oP 22 (.bin .lss (.t 21) (.c i0))] (cD 22 (sR [oP 4 (.mv (.c (.int .i64 (-1))))] .ret) .skip)) (sR [mV 23 1,mV 4 23] .ret)))))))
theorem dg17:Dg Tryz.prog 17 Tryz.f17 qx3 [(.t 4)]:=⟨Tryz.func17,by kernel_rfl,by kernel_rfl⟩
theorem z14 (k:Int):FnR Tryz.prog G 14 [.sl 10 [],.int .i64 k] (.int .i64 k):=by
 refine mF dg14 Tryz.ntmps14 ?_
 simp only[ic14,go_sem]
 with_reducible repeat' (first|refine br ?_ ?_<;>intro h e<;>(try simp only[e,go_sem])<;>clear e|rw[q01 (by omega)]|refine sd ?_<;>try simp only[go_sem]|fail)
 refine q0h (λi:Nat=>⟨q0e [(0,.sl 10 []),(1,.int .i64 k),(5,.int .i64 (i:Int))],q09 []⟩) (λi=>0 - i) (λi=>i=0) 0 (leQ []) rfl ?_
 rintro i rfl
 simp only[go_sem]
 with_reducible repeat' (first|refine br ?_ ?_<;>intro h e<;>(try simp only[e,go_sem])<;>clear e|rw[q01 (by omega)]|refine sd ?_<;>try simp only[go_sem]|fail)
theorem z37 (k:Int):FnR Tryz.prog G 37 [.sl 10 [],.int .i64 k] (.int .i64 k):=by
 refine mF dg37 Tryz.ntmps37 ?_
 simp only[ic37,go_sem]
 with_reducible repeat' (first|refine br ?_ ?_<;>intro h e<;>(try simp only[e,go_sem])<;>clear e|rw[q01 (by omega)]|refine sd ?_<;>try simp only[go_sem]|fail)
 refine q0h (λi:Nat=>⟨q0e [(0,.sl 10 []),(1,.int .i64 k),(5,.int .i64 (i:Int))],q09 []⟩) (λi=>0 - i) (λi=>i=0) 0 (leQ []) rfl ?_
 rintro i rfl
 simp only[go_sem]
 with_reducible repeat' (first|refine br ?_ ?_<;>intro h e<;>(try simp only[e,go_sem])<;>clear e|rw[q01 (by omega)]|refine sd ?_<;>try simp only[go_sem]|fail)
theorem z84 (k:Int):FnR Tryz.prog G 84 [.sl 3 [],.int .i64 k] (.int .i64 k):=by
 refine mF dg84 Tryz.ntmps84 ?_
 simp only[ic84,go_sem]
 with_reducible repeat' (first|refine br ?_ ?_<;>intro h e<;>(try simp only[e,go_sem])<;>clear e|rw[q01 (by omega)]|refine sd ?_<;>try simp only[go_sem]|fail)
 refine q0h (λi:Nat=>⟨q0e [(0,.sl 3 []),(1,.int .i64 k),(5,.int .i64 (i:Int))],q09 []⟩) (λi=>0 - i) (λi=>i=0) 0 (leQ []) rfl ?_
 rintro i rfl
 simp only[go_sem]
 with_reducible repeat' (first|refine br ?_ ?_<;>intro h e<;>(try simp only[e,go_sem])<;>clear e|rw[q01 (by omega)]|refine sd ?_<;>try simp only[go_sem]|fail)
theorem z86 (k:Int):FnR Tryz.prog G 86 [.sl 3 [],.int .i64 k] (.int .i64 k):=by
 refine mF dg86 Tryz.ntmps86 ?_
 simp only[ic86,go_sem]
 with_reducible repeat' (first|refine br ?_ ?_<;>intro h e<;>(try simp only[e,go_sem])<;>clear e|rw[q01 (by omega)]|refine sd ?_<;>try simp only[go_sem]|fail)
 refine q0h (λi:Nat=>⟨q0e [(0,.sl 3 []),(1,.int .i64 k),(5,.int .i64 (i:Int))],q09 []⟩) (λi=>0 - i) (λi=>i=0) 0 (leQ []) rfl ?_
 rintro i rfl
 simp only[go_sem]
 with_reducible repeat' (first|refine br ?_ ?_<;>intro h e<;>(try simp only[e,go_sem])<;>clear e|rw[q01 (by omega)]|refine sd ?_<;>try simp only[go_sem]|fail)
theorem z85 (k:Int):FnR Tryz.prog G 85 [.sl 8 [],.int .i64 k] (.int .i64 k):=by
 refine mF dg85 Tryz.ntmps85 ?_
 simp only[qpt,go_sem]
 with_reducible repeat' (first|refine br ?_ ?_<;>intro h e<;>(try simp only[e,go_sem])<;>clear e|rw[q01 (by omega)]|refine sd ?_<;>try simp only[go_sem]|fail)
 refine q0h (λi:Nat=>⟨q0e [(0,.sl 8 []),(1,.int .i64 k),(5,.int .i64 (i:Int))],q09 []⟩) (λi=>0 - i) (λi=>i=0) 0 (leQ []) rfl ?_
 rintro i rfl
 simp only[go_sem]
 with_reducible repeat' (first|refine br ?_ ?_<;>intro h e<;>(try simp only[e,go_sem])<;>clear e|rw[q01 (by omega)]|refine sd ?_<;>try simp only[go_sem]|fail)
theorem z87 (k:Int):FnR Tryz.prog G 87 [.sl 8 [],.int .i64 k] (.int .i64 k):=by
 refine mF dg87 Tryz.ntmps87 ?_
 simp only[qpv,go_sem]
 with_reducible repeat' (first|refine br ?_ ?_<;>intro h e<;>(try simp only[e,go_sem])<;>clear e|rw[q01 (by omega)]|refine sd ?_<;>try simp only[go_sem]|fail)
 refine q0h (λi:Nat=>⟨q0e [(0,.sl 8 []),(1,.int .i64 k),(5,.int .i64 (i:Int))],q09 []⟩) (λi=>0 - i) (λi=>i=0) 0 (leQ []) rfl ?_
 rintro i rfl
 simp only[go_sem]
 with_reducible repeat' (first|refine br ?_ ?_<;>intro h e<;>(try simp only[e,go_sem])<;>clear e|rw[q01 (by omega)]|refine sd ?_<;>try simp only[go_sem]|fail)
theorem z36 (k:Int):FnR Tryz.prog G 36 [.sl 7 [],.int .i64 k] (.int .i64 k):=by
 refine mF dg36 Tryz.ntmps36 ?_
 simp only[ic36,go_sem]
 with_reducible repeat' (first|refine br ?_ ?_<;>intro h e<;>(try simp only[e,go_sem])<;>clear e|rw[q01 (by omega)]|refine sd ?_<;>try simp only[go_sem]|fail)
 refine q0h (λi:Nat=>⟨q0e [(0,.sl 7 []),(1,.int .i64 k),(5,.int .i64 (i:Int))],q09 []⟩) (λi=>0 - i) (λi=>i=0) 0 (leQ []) rfl ?_
 rintro i rfl
 simp only[go_sem]
 with_reducible repeat' (first|refine br ?_ ?_<;>intro h e<;>(try simp only[e,go_sem])<;>clear e|rw[q01 (by omega)]|refine sd ?_<;>try simp only[go_sem]|fail)
theorem z39 (k:Int):FnR Tryz.prog G 39 [.sl 7 [],.int .i64 k] (.int .i64 k):=by
 refine mF dg39 Tryz.ntmps39 ?_
 simp only[ic39,go_sem]
 with_reducible repeat' (first|refine br ?_ ?_<;>intro h e<;>(try simp only[e,go_sem])<;>clear e|rw[q01 (by omega)]|refine sd ?_<;>try simp only[go_sem]|fail)
 refine q0h (λi:Nat=>⟨q0e [(0,.sl 7 []),(1,.int .i64 k),(5,.int .i64 (i:Int))],q09 []⟩) (λi=>0 - i) (λi=>i=0) 0 (leQ []) rfl ?_
 rintro i rfl
 simp only[go_sem]
 with_reducible repeat' (first|refine br ?_ ?_<;>intro h e<;>(try simp only[e,go_sem])<;>clear e|rw[q01 (by omega)]|refine sd ?_<;>try simp only[go_sem]|fail)
theorem z35 (k:Int):FnR Tryz.prog G 35 [.agg [.sl 3 [],.sl 8 []],.int .i64 k] (.int .i64 k):=by
 refine mF dg35 Tryz.ntmps35 ?_
 have c1:=z84 k
 have c2:=z85 k
 have hn:=True.intro
 simp only[qvv,go_sem]
 with_reducible repeat' (first|refine br ?_ ?_<;>intro h e<;>(try simp only[e,go_sem,hn])<;>clear e|rw[q01 (by omega)]|refine sd ?_<;>try simp only[go_sem,hn]|(first|refine cr (c1 ..) ?_|refine cr (c2 ..) ?_)<;>try simp only[go_sem,hn]|fail)
theorem z16 (k:Int):FnR Tryz.prog G 16 [.agg [.sl 10 [],.sl 3 [],.sl 8 [],.sl 7 []],.int .i64 k] (.int .i64 k):=by
 refine mF dg16 Tryz.ntmps16 ?_
 have c1:=z14 k
 have c2:=z35 k
 have c3:=z36 k
 have hn:=True.intro
 simp only[qu1,go_sem]
 with_reducible repeat' (first|refine br ?_ ?_<;>intro h e<;>(try simp only[e,go_sem,hn])<;>clear e|rw[q01 (by omega)]|refine sd ?_<;>try simp only[go_sem,hn]|(first|refine cr (c1 ..) ?_|refine cr (c2 ..) ?_|refine cr (c3 ..) ?_)<;>try simp only[go_sem,hn]|fail)
theorem z38 (k:Int) (hk:0≤k):FnR Tryz.prog G 38 [.agg [.sl 3 [],.sl 8 []],.int .i64 k] (.int .i64 k):=by
 refine mF dg38 Tryz.ntmps38 ?_
 have c1:=z86 k
 have c2:=z87 k
 have hn:¬k<0:=by omega
 simp only[qta,go_sem]
 with_reducible repeat' (first|refine br ?_ ?_<;>intro h e<;>(try simp only[e,go_sem,hn])<;>clear e|rw[q01 (by omega)]|refine sd ?_<;>try simp only[go_sem,hn]|(first|refine cr (c1 ..) ?_|refine cr (c2 ..) ?_)<;>try simp only[go_sem,hn]|fail)
theorem z17 (k:Int) (hk:0≤k):FnR Tryz.prog G 17 [.agg [.sl 10 [],.sl 3 [],.sl 8 [],.sl 7 []],.int .i64 k] (.int .i64 k):=by
 refine mF dg17 Tryz.ntmps17 ?_
 have c1:=z37 k
 have c2:=z38 k hk
 have c3:=z39 k
 have hn:¬k<0:=by omega
 simp only[qx3,go_sem]
 with_reducible repeat' (first|refine br ?_ ?_<;>intro h e<;>(try simp only[e,go_sem,hn])<;>clear e|rw[q01 (by omega)]|refine sd ?_<;>try simp only[go_sem,hn]|(first|refine cr (c1 ..) ?_|refine cr (c2 ..) ?_|refine cr (c3 ..) ?_)<;>try simp only[go_sem,hn]|fail)
set_option maxHeartbeats 2000000 in
theorem n081 (l:List Flw) (hfs:l=[]):FnP Tryz.prog G 81 1 [.var 169 []] [.view 0 0 0,.sl 8 (l.map Flw.row)] (λr o=>r=.bool true∧o=[.var 169 []]):=by
 refine mP dg81 Tryz.ntmps81 ⟨_,_,rfl,rfl⟩ ?_
 have hln:(l.length:Int)=0:=by rw[hfs];rfl
 simp only[qqq,go_sem,hln]
 with_reducible repeat' (first|refine br ?_ ?_<;>intro h e<;>(try simp only[e,go_sem,hln])<;>clear e|rw[q01 (by omega)]|refine sd ?_<;>try simp only[go_sem,hln]|fail)
 refine q0h (λk:Nat=>⟨q0e [(0,.view 0 0 0),(1,.sl 8 (l.map Flw.row)),(5,.int .i64 (k:Int))],q09 [(0,.var 169 [])]⟩) (λk=>0 - k) (λk=>k≤0) 0 (leN [] (by simp only[go_sem];first|done|omega|rfl) (by simp only[go_sem];first|done|omega|rfl) (by simp[q0b]) (by simp only[go_sem])) (Nat.zero_le _) ?_
 intro k hk
 obtain rfl:k=0:=by omega
 simp only[go_sem]
 with_reducible repeat' (first|refine br ?_ ?_<;>intro h e<;>(try simp only[e,go_sem,hln])<;>clear e|rw[q01 (by omega)]|refine sd ?_<;>try simp only[go_sem,hln]|fail)
 exact q0v (.bool true) [.var 169 []] [] (by simp only[go_sem]) ⟨rfl,rfl⟩ (by simp only[go_sem]) (by simp[q0r,q0b]) (by simp only[go_sem])
set_option maxHeartbeats 2000000 in
theorem n030 (d:Door) (hfs:d.flows=[]) (hm:d.map.length≤2000000):FnP Tryz.prog G 30 2 [.arr 145 3 (d.map.map Pair.row),.var 169 []] [.agg [.own 0 d.map.length,.view 1 0 0],.agg [.sl 3 (d.map.map Pair.row),.sl 8 (d.flows.map Flw.row)]] (λr o=>r=.bool true∧o=[.arr 145 3 (d.map.map Pair.row),.var 169 []]):=by
 refine mP dg30 Tryz.ntmps30 ⟨_,_,rfl,rfl⟩ ?_
 simp only[qr7,go_sem]
 with_reducible repeat' (first|refine br ?_ ?_<;>intro h e<;>(try simp only[e,go_sem])<;>clear e|rw[q01 (by omega)]|refine sd ?_<;>try simp only[go_sem]|fail)
 refine q0l (c80 d.map hm) [0] false (by simp only[go_sem];first|done|simp) (by simp only[List.mem_cons,List.not_mem_nil,or_false];rintro c (rfl)<;>simp only[go_sem]) rfl (.inr rfl) ?_
 simp only[go_sem]
 with_reducible repeat' (first|refine br ?_ ?_<;>intro h e<;>(try simp only[e,go_sem])<;>clear e|rw[q01 (by omega)]|refine sd ?_<;>try simp only[go_sem]|fail)
 refine q0f (n081 d.flows hfs) [1] [] true 15 1 (by simp only[go_sem];first|done|simp) (by simp only[go_sem];first|done|simp) (by simp) (by simp) (by simp) ?_ ?_ ?_
 ·rintro _ _ ⟨rfl,rfl⟩
  exact⟨by simp,by simp,.inl rfl,λi hi=>by obtain rfl:i=0:=(by omega);(simp[chH,q07,q02,q00];try omega)⟩
 ·intro i hi;obtain rfl:i=0:=(by omega);simp only[go_sem]
 rintro _ _ ⟨rfl,rfl⟩
 simp only[go_sem]
 with_reducible repeat' (first|refine br ?_ ?_<;>intro h e<;>(try simp only[e,go_sem])<;>clear e|rw[q01 (by omega)]|refine sd ?_<;>try simp only[go_sem]|fail)
 exact q0v (.bool true) [.arr 145 3 (d.map.map Pair.row),.var 169 []] [] (by simp only[go_sem]) ⟨rfl,rfl⟩ (by simp only[go_sem]) (by simp[q0r,q0b]) (by simp only[go_sem])
set_option maxHeartbeats 2000000 in
theorem n011 (w:M.World) (hfs:w.door.flows=[]) (hc:w.convs.length≤2000000) (hm:w.door.map.length≤2000000) (hn:w.nets.length≤2000000):FnP Tryz.prog G 11 4 [.arr 69 10 (w.convs.map Conv.row),.arr 145 3 (w.door.map.map Pair.row),.var 169 [],.arr 65 7 (w.nets.map Pk.row)] [.agg [.own 0 w.convs.length,.own 1 w.door.map.length,.view 2 0 0,.own 3 w.nets.length],.agg [.sl 10 (w.convs.map Conv.row),.sl 3 (w.door.map.map Pair.row),.sl 8 (w.door.flows.map Flw.row),.sl 7 (w.nets.map Pk.row)]] (λr o=>r=.bool true∧o=[.arr 69 10 (w.convs.map Conv.row),.arr 145 3 (w.door.map.map Pair.row),.var 169 [],.arr 65 7 (w.nets.map Pk.row)]):=by
 refine mP dg11 Tryz.ntmps11 ⟨_,_,rfl,rfl⟩ ?_
 simp only[qvk,go_sem]
 with_reducible repeat' (first|refine br ?_ ?_<;>intro h e<;>(try simp only[e,go_sem])<;>clear e|rw[q01 (by omega)]|refine sd ?_<;>try simp only[go_sem]|fail)
 refine q0l (c12 w.convs hc) [0] false (by simp only[go_sem];first|done|simp) (by simp only[List.mem_cons,List.not_mem_nil,or_false];rintro c (rfl)<;>simp only[go_sem]) rfl (.inr rfl) ?_
 simp only[go_sem]
 with_reducible repeat' (first|refine br ?_ ?_<;>intro h e<;>(try simp only[e,go_sem])<;>clear e|rw[q01 (by omega)]|refine sd ?_<;>try simp only[go_sem]|fail)
 refine q0f (n030 w.door hfs hm) [1,2] [] true 15 2 (by simp only[go_sem];first|done|simp) (by simp only[go_sem];first|done|simp) (by simp) (by simp) (by simp) ?_ ?_ ?_
 ·rintro _ _ ⟨rfl,rfl⟩
  exact⟨by simp,by simp,.inl rfl,λi hi=>by rcases(show i=0∨i=1 by omega) with rfl|rfl<;>(simp[chH,q07,q02,q00];try omega)⟩
 ·intro i hi;rcases(show i=0∨i=1 by omega) with rfl|rfl<;>simp only[go_sem]
 rintro _ _ ⟨rfl,rfl⟩
 simp only[go_sem]
 with_reducible repeat' (first|refine br ?_ ?_<;>intro h e<;>(try simp only[e,go_sem])<;>clear e|rw[q01 (by omega)]|refine sd ?_<;>try simp only[go_sem]|fail)
 refine q0l (c31 w.nets hn) [3] false (by simp only[go_sem];first|done|simp) (by simp only[List.mem_cons,List.not_mem_nil,or_false];rintro c (rfl)<;>simp only[go_sem]) rfl (.inr rfl) ?_
 simp only[go_sem]
 with_reducible repeat' (first|refine br ?_ ?_<;>intro h e<;>(try simp only[e,go_sem])<;>clear e|rw[q01 (by omega)]|refine sd ?_<;>try simp only[go_sem]|fail)
 exact q0v (.bool true) [.arr 69 10 (w.convs.map Conv.row),.arr 145 3 (w.door.map.map Pair.row),.var 169 [],.arr 65 7 (w.nets.map Pk.row)] [] (by simp only[go_sem]) ⟨rfl,rfl⟩ (by simp only[go_sem]) (by simp[q0r,q0b]) (by simp only[go_sem])
def mFS0 (k:Int):Nat→St
 | _=>(⟨q0e [(0,.view 0 0 0),(1,.int .i64 (k)),(5,.int .i64 0)],q09 [(0,.var 169 [])]⟩:St)
set_option maxHeartbeats 4000000 in
theorem n085 (k:Int) (hk:0≤k∧k≤100000000000):FnP Tryz.prog G 85 1 [.var 169 []] [.view 0 0 0,.int .i64 k] (λr o=>r=.int .i64 (k)∧o=[.var 169 []]):=by
 refine mP dg85 Tryz.ntmps85 ⟨_,_,rfl,rfl⟩ ?_
 simp only[qpt,go_sem]
 with_reducible repeat' (first|refine br ?_ ?_<;>intro h e<;>(try simp only[e,go_sem])<;>clear e|rw[q01 (by omega)]|refine sd ?_<;>try simp only[go_sem]|fail)
 refine q0h (mFS0 k) (λi=>0 - i) (λi=>i≤0) 0 (by simp only[mFS0];exact leN [] (by simp only[go_sem];first|done|omega|rfl) (by simp only[go_sem];first|done|omega|rfl) (by simp[q0b]) (by simp only[go_sem])) (Nat.zero_le _) ?_
 intro i hi
 obtain rfl:i=0:=by omega
 simp only[mFS0,go_sem]
 with_reducible repeat' (first|refine br ?_ ?_<;>intro h e<;>(try simp only[e,go_sem])<;>clear e|rw[q01 (by omega)]|refine sd ?_<;>try simp only[go_sem]|fail)
 exact q0v (.int .i64 (k)) [.var 169 []] [] (by simp only[go_sem]) ⟨rfl,rfl⟩ (by simp only[go_sem]) (by simp[q0r,q0b]) (by simp only[go_sem])
def hFS0 (k:Int):Nat→St
 | _=>(⟨q0e [(0,.view 0 0 0),(1,.int .i64 (k)),(5,.int .i64 0)],q09 [(0,.var 169 [])]⟩:St)
set_option maxHeartbeats 4000000 in
theorem n087 (k:Int) (hk:0≤k∧k≤100000000000):FnP Tryz.prog G 87 1 [.var 169 []] [.view 0 0 0,.int .i64 k] (λr o=>r=.int .i64 (k)∧o=[.var 169 []]):=by
 refine mP dg87 Tryz.ntmps87 ⟨_,_,rfl,rfl⟩ ?_
 simp only[qpv,go_sem]
 with_reducible repeat' (first|refine br ?_ ?_<;>intro h e<;>(try simp only[e,go_sem])<;>clear e|rw[q01 (by omega)]|refine sd ?_<;>try simp only[go_sem]|fail)
 refine q0h (hFS0 k) (λi=>0 - i) (λi=>i≤0) 0 (by simp only[hFS0];exact leN [] (by simp only[go_sem];first|done|omega|rfl) (by simp only[go_sem];first|done|omega|rfl) (by simp[q0b]) (by simp only[go_sem])) (Nat.zero_le _) ?_
 intro i hi
 obtain rfl:i=0:=by omega
 simp only[hFS0,go_sem]
 with_reducible repeat' (first|refine br ?_ ?_<;>intro h e<;>(try simp only[e,go_sem])<;>clear e|rw[q01 (by omega)]|refine sd ?_<;>try simp only[go_sem]|fail)
 exact q0v (.int .i64 (k)) [.var 169 []] [] (by simp only[go_sem]) ⟨rfl,rfl⟩ (by simp only[go_sem]) (by simp[q0r,q0b]) (by simp only[go_sem])
set_option maxHeartbeats 4000000 in
theorem n035 (l:List Pair) (m:Nat) (k:Int) (hm:l.length=m) (hm2:m≤1048576) (hk:0≤k∧k≤20000000000):FnP Tryz.prog G 35 2 [.arr 145 3 (l.map Pair.row),.var 169 []] [.agg [.own 0 m,.view 1 0 0],.int .i64 k] (λr o=>r=.int .i64 (k+3*m)∧o=[.arr 145 3 ((mkS q2o 3 k m).map Pair.row),.var 169 []]):=by
 subst hm
 refine mP dg35 Tryz.ntmps35 ⟨_,_,rfl,rfl⟩ ?_
 simp only[qvv,go_sem]
 with_reducible repeat' (first|refine br ?_ ?_<;>intro h e<;>(try simp only[e,go_sem])<;>clear e|rw[q01 (by omega)]|refine sd ?_<;>try simp only[go_sem]|fail)
 refine q0f (c84 l k hm2 (by omega)) [0] [] true 8 1 (by simp only[go_sem];first|done|simp) (by simp only[go_sem];first|done|simp) (by simp) (by simp) (by simp) ?_ ?_ ?_
 ·rintro _ _ ⟨rfl,rfl⟩
  exact⟨by simp,by simp,.inl rfl,λi hi=>by obtain rfl:i=0:=(by omega);(simp[chH,q07,q02,q00];try omega)⟩
 ·intro i hi;obtain rfl:i=0:=(by omega);simp only[go_sem]
 rintro _ _ ⟨rfl,rfl⟩
 simp only[go_sem]
 with_reducible repeat' (first|refine br ?_ ?_<;>intro h e<;>(try simp only[e,go_sem])<;>clear e|rw[q01 (by omega)]|refine sd ?_<;>try simp only[go_sem]|fail)
 refine q0f (n085 (k+3*l.length) (by omega)) [1] [] true 12 1 (by simp only[go_sem];first|done|simp) (by simp only[go_sem];first|done|simp) (by simp) (by simp) (by simp) ?_ ?_ ?_
 ·rintro _ _ ⟨rfl,rfl⟩
  exact⟨by simp,by simp,.inl rfl,λi hi=>by obtain rfl:i=0:=(by omega);(simp[chH,q07,q02,q00];try omega)⟩
 ·intro i hi;obtain rfl:i=0:=(by omega);simp only[go_sem]
 rintro _ _ ⟨rfl,rfl⟩
 simp only[go_sem]
 with_reducible repeat' (first|refine br ?_ ?_<;>intro h e<;>(try simp only[e,go_sem])<;>clear e|rw[q01 (by omega)]|refine sd ?_<;>try simp only[go_sem]|fail)
 exact q0v (.int .i64 (k+3*l.length)) [.arr 145 3 ((mkS q2o 3 k l.length).map Pair.row),.var 169 []] [] (by simp only[go_sem]) ⟨rfl,rfl⟩ (by simp only[go_sem]) (by simp[q0r,q0b]) (by simp only[go_sem])
set_option maxHeartbeats 4000000 in
theorem n038 (m:Nat) (k:Int) (hm2:m≤1048576) (hk:0≤k∧k≤20000000000):FnP Tryz.prog G 38 2 [.arr 145 3 ((mkS q2o 3 k m).map Pair.row),.var 169 []] [.agg [.own 0 m,.view 1 0 0],.int .i64 k] (λr o=>r=.int .i64 (k+3*m)∧o=[.arr 145 3 ((mkS q2o 3 k m).map Pair.row),.var 169 []]):=by
 refine mP dg38 Tryz.ntmps38 ⟨_,_,rfl,rfl⟩ ?_
 have n1:¬k+3*(m:Int)<0:=by omega
 have n2:¬k+3*m<0:=by(try simp only[flE]);omega
 simp only[qta,go_sem]
 with_reducible repeat' (first|refine br ?_ ?_<;>intro h e<;>(try simp only[e,go_sem])<;>clear e|rw[q01 (by omega)]|refine sd ?_<;>try simp only[go_sem]|fail)
 refine q0l (c86 m k hm2 (by omega)) [0] false (by simp only[go_sem];first|done|simp[q02]) (by simp only[List.mem_cons,List.not_mem_nil,or_false];rintro c (rfl)<;>simp only[go_sem]) rfl (.inr rfl) ?_
 simp only[go_sem,n1]
 with_reducible repeat' (first|refine br ?_ ?_<;>intro h e<;>(try simp only[e,go_sem,n1])<;>clear e|rw[q01 (by omega)]|refine sd ?_<;>try simp only[go_sem,n1]|fail)
 refine q0f (n087 (k+3*m) (by omega)) [1] [] true 14 1 (by simp only[go_sem,n2];first|done|simp) (by simp only[go_sem,n2];first|done|simp) (by simp) (by simp) (by simp) ?_ ?_ ?_
 ·rintro _ _ ⟨rfl,rfl⟩
  exact⟨by simp,by simp,.inl rfl,λi hi=>by obtain rfl:i=0:=(by omega);(simp[chH,q07,q02,q00];try omega)⟩
 ·intro i hi;obtain rfl:i=0:=(by omega);simp only[go_sem]
 rintro _ _ ⟨rfl,rfl⟩
 simp only[go_sem,n2]
 with_reducible repeat' (first|refine br ?_ ?_<;>intro h e<;>(try simp only[e,go_sem,n2])<;>clear e|rw[q01 (by omega)]|refine sd ?_<;>try simp only[go_sem,n2]|fail)
 exact q0v (.int .i64 (k+3*m)) [.arr 145 3 ((mkS q2o 3 k m).map Pair.row),.var 169 []] [] (by simp only[go_sem]) ⟨rfl,rfl⟩ (by simp only[go_sem]) (by simp[q0r,q0b]) (by simp only[go_sem])
set_option maxHeartbeats 4000000 in
theorem n016 (cs:List Conv) (l:List Pair) (ps:List Pk) (c m p:Nat) (k:Int) (hc:cs.length=c) (hm:l.length=m) (hp:ps.length=p) (hc2:c≤1048576) (hm2:m≤1048576) (hp2:p≤1048576) (hk:0≤k∧k≤1000000000) :
 FnP Tryz.prog G 16 4 [.arr 69 10 (cs.map Conv.row),.arr 145 3 (l.map Pair.row),.var 169 [],.arr 65 7 (ps.map Pk.row)] [.agg [.own 0 c,.own 1 m,.view 2 0 0,.own 3 p],.int .i64 k] (λr o=>r=.int .i64 (k+10*c+3*m+7*p)∧o=[.arr 69 10 ((mkS mkC 10 k c).map Conv.row),.arr 145 3 ((mkS q2o 3 (k+10*c) m).map Pair.row),.var 169 [],.arr 65 7 ((mkS q3q 7 (k+10*c+3*m) p).map Pk.row)]):=by
 refine mP dg16 Tryz.ntmps16 ⟨_,_,rfl,rfl⟩ ?_
 have hkb:0≤k+10*c+3*m∧k+10*c+3*m≤500000000000:=by(try simp only[flE,ptB] at *);omega
 simp only[qu1,go_sem]
 with_reducible repeat' (first|refine br ?_ ?_<;>intro h e<;>(try simp only[e,go_sem])<;>clear e|rw[q01 (by omega)]|refine sd ?_<;>try simp only[go_sem]|fail)
 have c1:=c14 cs k (by omega) (by omega)
 have c2:=c36 ps (k+10*c+3*m) (by omega) (by omega)
 rw[hc] at c1
 rw[hp] at c2
 refine q0f (c1) [0] [] true 8 1 (by simp only[go_sem];first|done|simp) (by simp only[go_sem];first|done|simp) (by simp) (by simp) (by simp) ?_ ?_ ?_
 ·rintro _ _ ⟨rfl,rfl⟩
  exact⟨by simp,by simp,.inl rfl,λi hi=>by obtain rfl:i=0:=(by omega);(simp[chH,q07,q02,q00];try omega)⟩
 ·intro i hi;obtain rfl:i=0:=(by omega);simp only[go_sem]
 rintro _ _ ⟨rfl,rfl⟩
 simp only[go_sem]
 with_reducible repeat' (first|refine br ?_ ?_<;>intro h e<;>(try simp only[e,go_sem])<;>clear e|rw[q01 (by omega)]|refine sd ?_<;>try simp only[go_sem]|fail)
 refine q0f (n035 l m (k+10*c) hm hm2 (by omega)) [1,2] [] true 12 2 (by simp only[go_sem];first|done|simp) (by simp only[go_sem];first|done|simp) (by simp) (by simp) (by simp) ?_ ?_ ?_
 ·rintro _ _ ⟨rfl,rfl⟩
  exact⟨by simp,by simp,.inl rfl,λi hi=>by rcases(show i=0∨i=1 by omega) with rfl|rfl<;>(simp[chH,q07,q02,q00];try omega)⟩
 ·intro i hi;rcases(show i=0∨i=1 by omega) with rfl|rfl<;>simp only[go_sem]
 rintro _ _ ⟨rfl,rfl⟩
 simp only[go_sem]
 with_reducible repeat' (first|refine br ?_ ?_<;>intro h e<;>(try simp only[e,go_sem])<;>clear e|rw[q01 (by omega)]|refine sd ?_<;>try simp only[go_sem]|fail)
 refine q0f (c2) [3] [] true 16 1 (by simp only[go_sem];first|done|simp) (by simp only[go_sem];first|done|simp) (by simp) (by simp) (by simp) ?_ ?_ ?_
 ·rintro _ _ ⟨rfl,rfl⟩
  exact⟨by simp,by simp,.inl rfl,λi hi=>by obtain rfl:i=0:=(by omega);(simp[chH,q07,q02,q00];try omega)⟩
 ·intro i hi;obtain rfl:i=0:=(by omega);simp only[go_sem]
 rintro _ _ ⟨rfl,rfl⟩
 simp only[go_sem]
 with_reducible repeat' (first|refine br ?_ ?_<;>intro h e<;>(try simp only[e,go_sem])<;>clear e|rw[q01 (by omega)]|refine sd ?_<;>try simp only[go_sem]|fail)
 exact q0v (.int .i64 (k+10*c+3*m+7*p)) [.arr 69 10 ((mkS mkC 10 k c).map Conv.row),.arr 145 3 ((mkS q2o 3 (k+10*c) m).map Pair.row),.var 169 [],.arr 65 7 ((mkS q3q 7 (k+10*c+3*m) p).map Pk.row)] [] (by simp only[go_sem]) ⟨rfl,rfl⟩ (by simp only[go_sem]) (by simp[q0r,q0b]) (by simp only[go_sem])
set_option maxHeartbeats 4000000 in
theorem n017 (c m p:Nat) (k:Int) (hc2:c≤1048576) (hm2:m≤1048576) (hp2:p≤1048576) (hk:0≤k∧k≤1000000000) :
 FnP Tryz.prog G 17 4 [.arr 69 10 ((mkS mkC 10 k c).map Conv.row),.arr 145 3 ((mkS q2o 3 (k+10*c) m).map Pair.row),.var 169 [],.arr 65 7 ((mkS q3q 7 (k+10*c+3*m) p).map Pk.row)] [.agg [.own 0 c,.own 1 m,.view 2 0 0,.own 3 p],.int .i64 k] (λr o=>r=.int .i64 (k+10*c+3*m+7*p)∧o=[.arr 69 10 ((mkS mkC 10 k c).map Conv.row),.arr 145 3 ((mkS q2o 3 (k+10*c) m).map Pair.row),.var 169 [],.arr 65 7 ((mkS q3q 7 (k+10*c+3*m) p).map Pk.row)]):=by
 refine mP dg17 Tryz.ntmps17 ⟨_,_,rfl,rfl⟩ ?_
 have hkb:0≤k+10*c+3*m∧k+10*c+3*m≤500000000000:=by(try simp only[flE,ptB] at *);omega
 have n1:¬k+10*(c:Int)<0:=by omega
 have n2:¬k+10*c+3*m<0:=by omega
 have n3:¬k+10*c+3*m+7*p<0:=by omega
 simp only[qx3,go_sem]
 with_reducible repeat' (first|refine br ?_ ?_<;>intro h e<;>(try simp only[e,go_sem])<;>clear e|rw[q01 (by omega)]|refine sd ?_<;>try simp only[go_sem]|fail)
 refine q0l (c37 c k hc2 (by omega)) [0] false (by simp only[go_sem];first|done|simp[q02]) (by simp only[List.mem_cons,List.not_mem_nil,or_false];rintro c (rfl)<;>simp only[go_sem]) rfl (.inr rfl) ?_
 simp only[go_sem,n1]
 with_reducible repeat' (first|refine br ?_ ?_<;>intro h e<;>(try simp only[e,go_sem,n1])<;>clear e|rw[q01 (by omega)]|refine sd ?_<;>try simp only[go_sem,n1]|fail)
 refine q0f (n038 m (k+10*c) hm2 (by omega)) [1,2] [] true 14 2 (by simp only[go_sem,n2];first|done|simp) (by simp only[go_sem,n2];first|done|simp) (by simp) (by simp) (by simp) ?_ ?_ ?_
 ·rintro _ _ ⟨rfl,rfl⟩
  exact⟨by simp,by simp,.inl rfl,λi hi=>by rcases(show i=0∨i=1 by omega) with rfl|rfl<;>(simp[chH,q07,q02,q00];try omega)⟩
 ·intro i hi;rcases(show i=0∨i=1 by omega) with rfl|rfl<;>simp only[go_sem]
 rintro _ _ ⟨rfl,rfl⟩
 simp only[go_sem,n2]
 with_reducible repeat' (first|refine br ?_ ?_<;>intro h e<;>(try simp only[e,go_sem,n2])<;>clear e|rw[q01 (by omega)]|refine sd ?_<;>try simp only[go_sem,n2]|fail)
 refine q0l (c39 p (k+10*c+3*m) hp2 (by omega)) [3] false (by simp only[go_sem];first|done|simp[q02]) (by simp only[List.mem_cons,List.not_mem_nil,or_false];rintro c (rfl)<;>simp only[go_sem]) rfl (.inr rfl) ?_
 simp only[go_sem,n3]
 with_reducible repeat' (first|refine br ?_ ?_<;>intro h e<;>(try simp only[e,go_sem,n3])<;>clear e|rw[q01 (by omega)]|refine sd ?_<;>try simp only[go_sem,n3]|fail)
 exact q0v (.int .i64 (k+10*c+3*m+7*p)) [.arr 69 10 ((mkS mkC 10 k c).map Conv.row),.arr 145 3 ((mkS q2o 3 (k+10*c) m).map Pair.row),.var 169 [],.arr 65 7 ((mkS q3q 7 (k+10*c+3*m) p).map Pk.row)] [] (by simp only[go_sem]) ⟨rfl,rfl⟩ (by simp only[go_sem]) (by simp[q0r,q0b]) (by simp only[go_sem])
set_option maxHeartbeats 2000000 in
theorem n181 (l:List Flw) (f:Flw) (hfs:l=[f]) (bf:ptB f):FnP Tryz.prog G 81 3 [.var 169 [.int .i64 f.ins.a,.int .i64 f.ins.p,.int .i64 f.out.a,.int .i64 f.out.p,.str f.up.inn,.own 1 f.up.parts.length,.str f.down.inn,.own 2 f.down.parts.length],.arr 204 2 (f.up.parts.map Part.row),.arr 204 2 (f.down.parts.map Part.row)] [.view 0 1 1,.sl 8 (l.map Flw.row)] (λr o=>r=.bool true∧o=[.var 169 [.int .i64 f.ins.a,.int .i64 f.ins.p,.int .i64 f.out.a,.int .i64 f.out.p,.str f.up.inn,.own 1 f.up.parts.length,.str f.down.inn,.own 2 f.down.parts.length],.arr 204 2 (f.up.parts.map Part.row),.arr 204 2 (f.down.parts.map Part.row)]):=by
 refine mP dg81 Tryz.ntmps81 ⟨_,_,rfl,rfl⟩ ?_
 have hln:(l.length:Int)=1:=by rw[hfs];rfl
 simp only[qqq,go_sem,hln]
 with_reducible repeat' (first|refine br ?_ ?_<;>intro h e<;>(try simp only[e,go_sem,hln])<;>clear e|rw[q01 (by omega)]|refine sd ?_<;>try simp only[go_sem,hln]|fail)
 refine q0h (λk:Nat=>⟨q0e [(0,.view 0 1 1),(1,.sl 8 (l.map Flw.row)),(5,.int .i64 (k:Int))],q09 [(0,.var 169 [.int .i64 f.ins.a,.int .i64 f.ins.p,.int .i64 f.out.a,.int .i64 f.out.p,.str f.up.inn,.own 1 f.up.parts.length,.str f.down.inn,.own 2 f.down.parts.length]),(1,.arr 204 2 (f.up.parts.map Part.row)),(2,.arr 204 2 (f.down.parts.map Part.row))]⟩) (λk=>1 - k) (λk=>k≤1) 0 (leN [] (by simp only[go_sem];first|done|omega|rfl) (by simp only[go_sem];first|done|omega|rfl) (by simp[q0b]) (by simp only[go_sem])) (Nat.zero_le _) ?_
 intro k hk
 by_cases k0:k=0
 ·subst k0
  have hg:l.getD 0 default=f:=by rw[hfs];rfl
  simp only[go_sem]
  with_reducible repeat' (first|refine br ?_ ?_<;>intro h e<;>(try simp only[e,go_sem,hg,hln])<;>clear e|rw[q01 (by omega)]|refine sd ?_<;>try simp only[go_sem,hg,hln]|fail)
  refine q0l (c138 f bf) [1,2] false (by simp only[go_sem];first|done|simp) (by simp only[List.mem_cons,List.not_mem_nil,or_false];rintro c (rfl|rfl)<;>simp only[go_sem]) rfl (.inr rfl) ?_
  simp only[go_sem]
  with_reducible repeat' (first|refine br ?_ ?_<;>intro h e<;>(try simp only[e,go_sem,hg,hln])<;>clear e|rw[q01 (by omega)]|refine sd ?_<;>try simp only[go_sem,hg,hln]|fail)
  exact⟨1,by omega,by omega,leN [] (by simp only[go_sem];first|done|omega|rfl) (by simp only[go_sem];first|done|omega|rfl) (by simp[q0b]) (by simp only[go_sem])⟩
 obtain rfl:k=1:=by omega
 simp only[go_sem]
 with_reducible repeat' (first|refine br ?_ ?_<;>intro h e<;>(try simp only[e,go_sem,hln])<;>clear e|rw[q01 (by omega)]|refine sd ?_<;>try simp only[go_sem,hln]|fail)
 exact q0v (.bool true) [.var 169 [.int .i64 f.ins.a,.int .i64 f.ins.p,.int .i64 f.out.a,.int .i64 f.out.p,.str f.up.inn,.own 1 f.up.parts.length,.str f.down.inn,.own 2 f.down.parts.length],.arr 204 2 (f.up.parts.map Part.row),.arr 204 2 (f.down.parts.map Part.row)] [] (by simp only[go_sem]) ⟨rfl,rfl⟩ (by simp only[go_sem]) (by simp[q0r,q0b]) (by simp only[go_sem])
set_option maxHeartbeats 2000000 in
theorem n130 (d:Door) (f:Flw) (hfs:d.flows=[f]) (hm:d.map.length≤2000000) (bf:ptB f):FnP Tryz.prog G 30 4 [.arr 145 3 (d.map.map Pair.row),.var 169 [.int .i64 f.ins.a,.int .i64 f.ins.p,.int .i64 f.out.a,.int .i64 f.out.p,.str f.up.inn,.own 2 f.up.parts.length,.str f.down.inn,.own 3 f.down.parts.length],.arr 204 2 (f.up.parts.map Part.row),.arr 204 2 (f.down.parts.map Part.row)] [.agg [.own 0 d.map.length,.view 1 1 1],.agg [.sl 3 (d.map.map Pair.row),.sl 8 (d.flows.map Flw.row)]] (λr o=>r=.bool true∧o=[.arr 145 3 (d.map.map Pair.row),.var 169 [.int .i64 f.ins.a,.int .i64 f.ins.p,.int .i64 f.out.a,.int .i64 f.out.p,.str f.up.inn,.own 2 f.up.parts.length,.str f.down.inn,.own 3 f.down.parts.length],.arr 204 2 (f.up.parts.map Part.row),.arr 204 2 (f.down.parts.map Part.row)]):=by
 refine mP dg30 Tryz.ntmps30 ⟨_,_,rfl,rfl⟩ ?_
 simp only[qr7,go_sem]
 with_reducible repeat' (first|refine br ?_ ?_<;>intro h e<;>(try simp only[e,go_sem])<;>clear e|rw[q01 (by omega)]|refine sd ?_<;>try simp only[go_sem]|fail)
 refine q0l (c80 d.map hm) [0] false (by simp only[go_sem];first|done|simp) (by simp only[List.mem_cons,List.not_mem_nil,or_false];rintro c (rfl)<;>simp only[go_sem]) rfl (.inr rfl) ?_
 simp only[go_sem]
 with_reducible repeat' (first|refine br ?_ ?_<;>intro h e<;>(try simp only[e,go_sem])<;>clear e|rw[q01 (by omega)]|refine sd ?_<;>try simp only[go_sem]|fail)
 refine q0f (n181 d.flows f hfs bf) [1,2,3] [] true 15 3 (by simp only[go_sem];first|done|simp) (by simp only[go_sem];first|done|simp) (by simp) (by simp) (by simp) ?_ ?_ ?_
 ·rintro _ _ ⟨rfl,rfl⟩
  exact⟨by simp,by simp,.inl rfl,λi hi=>by rcases(show i=0∨i=1∨i=2 by omega) with rfl|rfl|rfl<;>(simp[chH,q07,q02,q00];try omega)⟩
 ·intro i hi;rcases(show i=0∨i=1∨i=2 by omega) with rfl|rfl|rfl<;>simp only[go_sem]
 rintro _ _ ⟨rfl,rfl⟩
 simp only[go_sem]
 with_reducible repeat' (first|refine br ?_ ?_<;>intro h e<;>(try simp only[e,go_sem])<;>clear e|rw[q01 (by omega)]|refine sd ?_<;>try simp only[go_sem]|fail)
 exact q0v (.bool true) [.arr 145 3 (d.map.map Pair.row),.var 169 [.int .i64 f.ins.a,.int .i64 f.ins.p,.int .i64 f.out.a,.int .i64 f.out.p,.str f.up.inn,.own 2 f.up.parts.length,.str f.down.inn,.own 3 f.down.parts.length],.arr 204 2 (f.up.parts.map Part.row),.arr 204 2 (f.down.parts.map Part.row)] [] (by simp only[go_sem]) ⟨rfl,rfl⟩ (by simp only[go_sem]) (by simp[q0r,q0b]) (by simp only[go_sem])
set_option maxHeartbeats 2000000 in
theorem n111 (w:M.World) (f:Flw) (hfs:w.door.flows=[f]) (hc:w.convs.length≤2000000) (hm:w.door.map.length≤2000000) (hn:w.nets.length≤2000000) (bf:ptB f):FnP Tryz.prog G 11 6 [.arr 69 10 (w.convs.map Conv.row),.arr 145 3 (w.door.map.map Pair.row),.var 169 [.int .i64 f.ins.a,.int .i64 f.ins.p,.int .i64 f.out.a,.int .i64 f.out.p,.str f.up.inn,.own 4 f.up.parts.length,.str f.down.inn,.own 5 f.down.parts.length],.arr 65 7 (w.nets.map Pk.row),.arr 204 2 (f.up.parts.map Part.row),.arr 204 2 (f.down.parts.map Part.row)] [.agg [.own 0 w.convs.length,.own 1 w.door.map.length,.view 2 1 1,.own 3 w.nets.length],.agg [.sl 10 (w.convs.map Conv.row),.sl 3 (w.door.map.map Pair.row),.sl 8 (w.door.flows.map Flw.row),.sl 7 (w.nets.map Pk.row)]] (λr o=>r=.bool true∧o=[.arr 69 10 (w.convs.map Conv.row),.arr 145 3 (w.door.map.map Pair.row),.var 169 [.int .i64 f.ins.a,.int .i64 f.ins.p,.int .i64 f.out.a,.int .i64 f.out.p,.str f.up.inn,.own 4 f.up.parts.length,.str f.down.inn,.own 5 f.down.parts.length],.arr 65 7 (w.nets.map Pk.row),.arr 204 2 (f.up.parts.map Part.row),.arr 204 2 (f.down.parts.map Part.row)]):=by
 refine mP dg11 Tryz.ntmps11 ⟨_,_,rfl,rfl⟩ ?_
 simp only[qvk,go_sem]
 with_reducible repeat' (first|refine br ?_ ?_<;>intro h e<;>(try simp only[e,go_sem])<;>clear e|rw[q01 (by omega)]|refine sd ?_<;>try simp only[go_sem]|fail)
 refine q0l (c12 w.convs hc) [0] false (by simp only[go_sem];first|done|simp) (by simp only[List.mem_cons,List.not_mem_nil,or_false];rintro c (rfl)<;>simp only[go_sem]) rfl (.inr rfl) ?_
 simp only[go_sem]
 with_reducible repeat' (first|refine br ?_ ?_<;>intro h e<;>(try simp only[e,go_sem])<;>clear e|rw[q01 (by omega)]|refine sd ?_<;>try simp only[go_sem]|fail)
 refine q0f (n130 w.door f hfs hm bf) [1,2,4,5] [] true 15 4 (by simp only[go_sem];first|done|simp) (by simp only[go_sem];first|done|simp) (by simp) (by simp) (by simp) ?_ ?_ ?_
 ·rintro _ _ ⟨rfl,rfl⟩
  exact⟨by simp,by simp,.inl rfl,λi hi=>by rcases(show i=0∨i=1∨i=2∨i=3 by omega) with rfl|rfl|rfl|rfl<;>(simp[chH,q07,q02,q00];try omega)⟩
 ·intro i hi;rcases(show i=0∨i=1∨i=2∨i=3 by omega) with rfl|rfl|rfl|rfl<;>simp only[go_sem]
 rintro _ _ ⟨rfl,rfl⟩
 simp only[go_sem]
 with_reducible repeat' (first|refine br ?_ ?_<;>intro h e<;>(try simp only[e,go_sem])<;>clear e|rw[q01 (by omega)]|refine sd ?_<;>try simp only[go_sem]|fail)
 refine q0l (c31 w.nets hn) [3] false (by simp only[go_sem];first|done|simp) (by simp only[List.mem_cons,List.not_mem_nil,or_false];rintro c (rfl)<;>simp only[go_sem]) rfl (.inr rfl) ?_
 simp only[go_sem]
 with_reducible repeat' (first|refine br ?_ ?_<;>intro h e<;>(try simp only[e,go_sem])<;>clear e|rw[q01 (by omega)]|refine sd ?_<;>try simp only[go_sem]|fail)
 exact q0v (.bool true) [.arr 69 10 (w.convs.map Conv.row),.arr 145 3 (w.door.map.map Pair.row),.var 169 [.int .i64 f.ins.a,.int .i64 f.ins.p,.int .i64 f.out.a,.int .i64 f.out.p,.str f.up.inn,.own 4 f.up.parts.length,.str f.down.inn,.own 5 f.down.parts.length],.arr 65 7 (w.nets.map Pk.row),.arr 204 2 (f.up.parts.map Part.row),.arr 204 2 (f.down.parts.map Part.row)] [] (by simp only[go_sem]) ⟨rfl,rfl⟩ (by simp only[go_sem]) (by simp[q0r,q0b]) (by simp only[go_sem])
def qrh (f:Flw) (k:Int):Nat→St
 | 0=>(⟨q0e [(0,.view 0 1 1),(1,.int .i64 (k)),(5,.int .i64 0)],q09 [(0,.var 169 [.int .i64 f.ins.a,.int .i64 f.ins.p,.int .i64 f.out.a,.int .i64 f.out.p,.str f.up.inn,.own 1 f.up.parts.length,.str f.down.inn,.own 2 f.down.parts.length]),(1,.arr 204 2 (f.up.parts.map Part.row)),(2,.arr 204 2 (f.down.parts.map Part.row))]⟩:St)
 | _=>(⟨q0e [(0,.view 0 1 1),(1,.int .i64 (flE k f)),(5,.int .i64 1)],q09 [(0,.var 169 [.int .i64 (q00 k f).ins.a,.int .i64 (q00 k f).ins.p,.int .i64 (q00 k f).out.a,.int .i64 (q00 k f).out.p,.str (q00 k f).up.inn,.own 1 (q00 k f).up.parts.length,.str (q00 k f).down.inn,.own 2 (q00 k f).down.parts.length]),(1,.arr 204 2 ((q00 k f).up.parts.map Part.row)),(2,.arr 204 2 ((q00 k f).down.parts.map Part.row))]⟩:St)
set_option maxHeartbeats 4000000 in
theorem n185 (f:Flw) (k:Int) (hk:0≤k∧k≤100000000000) (bf:ptB f):FnP Tryz.prog G 85 3 [.var 169 [.int .i64 f.ins.a,.int .i64 f.ins.p,.int .i64 f.out.a,.int .i64 f.out.p,.str f.up.inn,.own 1 f.up.parts.length,.str f.down.inn,.own 2 f.down.parts.length],.arr 204 2 (f.up.parts.map Part.row),.arr 204 2 (f.down.parts.map Part.row)] [.view 0 1 1,.int .i64 k] (λr o=>r=.int .i64 (flE k f)∧o=[.var 169 [.int .i64 (q00 k f).ins.a,.int .i64 (q00 k f).ins.p,.int .i64 (q00 k f).out.a,.int .i64 (q00 k f).out.p,.str (q00 k f).up.inn,.own 1 (q00 k f).up.parts.length,.str (q00 k f).down.inn,.own 2 (q00 k f).down.parts.length],.arr 204 2 ((q00 k f).up.parts.map Part.row),.arr 204 2 ((q00 k f).down.parts.map Part.row)]):=by
 refine mP dg85 Tryz.ntmps85 ⟨_,_,rfl,rfl⟩ ?_
 simp only[qpt,go_sem]
 with_reducible repeat' (first|refine br ?_ ?_<;>intro h e<;>(try simp only[e,go_sem])<;>clear e|rw[q01 (by omega)]|refine sd ?_<;>try simp only[go_sem]|fail)
 refine q0h (qrh f k) (λi=>1 - i) (λi=>i≤1) 0 (by simp only[qrh];exact leN [] (by simp only[go_sem];first|done|omega|rfl) (by simp only[go_sem];first|done|omega|rfl) (by simp[q0b]) (by simp only[go_sem])) (Nat.zero_le _) ?_
 intro i hi
 by_cases i0:i=0
 ·subst i0
  simp only[qrh,go_sem]
  obtain⟨kk,hkk⟩:∃kk,k=kk:=⟨_,rfl⟩
  have hkb:0≤kk∧kk≤200000000000:=by(try simp only[flE,ptB] at *);omega
  obtain⟨h1,h2⟩:=bf
  obtain⟨q,hq⟩:∃q,kk+5+2*(f.up.parts.length:Int)=q:=⟨_,rfl⟩
  have hq1:kk+6+2*(f.up.parts.length:Int)=q+1:=by omega
  have hq2:q+1+2*(f.down.parts.length:Int)=flE kk f:=by simp only[flE];omega
  have w1:IntKind.i64.wrap (kk+1)=kk+1:=q01 (by omega)
  have w2:IntKind.i64.wrap (kk+2)=kk+2:=q01 (by omega)
  have w3:IntKind.i64.wrap (kk+3)=kk+3:=q01 (by omega)
  have w4:IntKind.i64.wrap (kk+4)=kk+4:=q01 (by omega)
  have w5:IntKind.i64.wrap (kk+5)=kk+5:=q01 (by omega)
  have wq:IntKind.i64.wrap (q+1)=q+1:=q01 (by omega)
  simp only[hkk,k11,k21,k31,k41,w1,w2,w3,w4,w5,go_sem]
  with_reducible repeat' (first|rw[q01 (by omega)];try simp only[go_sem,k11,k21,k31,k41,w1,w2,w3,w4,w5]|refine br ?_ ?_<;>intro h e<;>(try simp only[e,go_sem,k11,k21,k31,k41,w1,w2,w3,w4,w5])<;>clear e|refine sd ?_<;>try simp only[go_sem,k11,k21,k31,k41,w1,w2,w3,w4,w5]|(first|refine cr (c34 _ (by omega)) ?_)<;>try simp only[go_sem,k11,k21,k31,k41,w1,w2,w3,w4,w5]|fail)
  refine q0f (qor f.up.parts (kk+5) h1 (by omega)) [1] [] true 60 1 (by simp only[go_sem,q02];first|done|simp) (by simp only[go_sem,q02];first|done|simp) (by simp) (by simp) (by simp) ?_ ?_ ?_
  ·rintro _ _ ⟨rfl,rfl⟩
   exact⟨by simp,by simp,.inl rfl,λi hi=>by obtain rfl:i=0:=(by omega);(simp[chH,q07,q02,q00];try omega)⟩
  ·intro i hi;obtain rfl:i=0:=(by omega);simp only[go_sem]
  rintro _ _ ⟨rfl,rfl⟩
  simp only[go_sem,q02]
  try simp only[hq]
  with_reducible repeat' (first|rw[q01 (by omega)];try simp only[go_sem,hq,wq]|refine br ?_ ?_<;>intro h e<;>(try simp only[e,go_sem,hq,wq])<;>clear e|refine sd ?_<;>try simp only[go_sem,hq,wq]|(first|refine cr (c34 _ (by omega)) ?_)<;>try simp only[go_sem,hq,wq]|fail)
  refine q0f (qor f.down.parts (q+1) h2 (by omega)) [2] [] true 77 1 (by simp only[go_sem,q02];first|done|simp) (by simp only[go_sem,q02];first|done|simp) (by simp) (by simp) (by simp) ?_ ?_ ?_
  ·rintro _ _ ⟨rfl,rfl⟩
   exact⟨by simp,by simp,.inl rfl,λi hi=>by obtain rfl:i=0:=(by omega);(simp[chH,q07,q02,q00];try omega)⟩
  ·intro i hi;obtain rfl:i=0:=(by omega);simp only[go_sem]
  rintro _ _ ⟨rfl,rfl⟩
  simp only[go_sem,q02]
  with_reducible repeat' (first|rw[q01 (by omega)];try simp only[go_sem,hq2]|refine br ?_ ?_<;>intro h e<;>(try simp only[e,go_sem,hq2])<;>clear e|refine sd ?_<;>try simp only[go_sem,hq2]|fail)
  exact⟨1,by omega,by omega,by simp only[qrh];exact leN [] (by simp only[go_sem,hkk,hq2];first|done|omega|rfl) (by simp only[go_sem,hkk,q00,q02,hq,hq1];first|done|omega|rfl) (by simp[q0b]) (by simp only[go_sem])⟩
 obtain rfl:i=1:=by omega
 simp only[qrh,go_sem]
 with_reducible repeat' (first|refine br ?_ ?_<;>intro h e<;>(try simp only[e,go_sem])<;>clear e|rw[q01 (by omega)]|refine sd ?_<;>try simp only[go_sem]|fail)
 exact q0v (.int .i64 (flE k f)) [.var 169 [.int .i64 (q00 k f).ins.a,.int .i64 (q00 k f).ins.p,.int .i64 (q00 k f).out.a,.int .i64 (q00 k f).out.p,.str (q00 k f).up.inn,.own 1 (q00 k f).up.parts.length,.str (q00 k f).down.inn,.own 2 (q00 k f).down.parts.length],.arr 204 2 ((q00 k f).up.parts.map Part.row),.arr 204 2 ((q00 k f).down.parts.map Part.row)] [] (by simp only[go_sem]) ⟨rfl,rfl⟩ (by simp only[go_sem]) (by simp[q0r,q0b]) (by simp only[go_sem])
def qtu (f:Flw) (k:Int):Nat→St
 | 0=>(⟨q0e [(0,.view 0 1 1),(1,.int .i64 (k)),(5,.int .i64 0)],q09 [(0,.var 169 [.int .i64 (q00 k f).ins.a,.int .i64 (q00 k f).ins.p,.int .i64 (q00 k f).out.a,.int .i64 (q00 k f).out.p,.str (q00 k f).up.inn,.own 1 (q00 k f).up.parts.length,.str (q00 k f).down.inn,.own 2 (q00 k f).down.parts.length]),(1,.arr 204 2 ((q00 k f).up.parts.map Part.row)),(2,.arr 204 2 ((q00 k f).down.parts.map Part.row))]⟩:St)
 | _=>(⟨q0e [(0,.view 0 1 1),(1,.int .i64 (flE k f)),(5,.int .i64 1)],q09 [(0,.var 169 [.int .i64 (q00 k f).ins.a,.int .i64 (q00 k f).ins.p,.int .i64 (q00 k f).out.a,.int .i64 (q00 k f).out.p,.str (q00 k f).up.inn,.own 1 (q00 k f).up.parts.length,.str (q00 k f).down.inn,.own 2 (q00 k f).down.parts.length]),(1,.arr 204 2 ((q00 k f).up.parts.map Part.row)),(2,.arr 204 2 ((q00 k f).down.parts.map Part.row))]⟩:St)
set_option maxHeartbeats 4000000 in
theorem n187 (f:Flw) (k:Int) (hk:0≤k∧k≤100000000000) (bf:ptB f):FnP Tryz.prog G 87 3 [.var 169 [.int .i64 (q00 k f).ins.a,.int .i64 (q00 k f).ins.p,.int .i64 (q00 k f).out.a,.int .i64 (q00 k f).out.p,.str (q00 k f).up.inn,.own 1 (q00 k f).up.parts.length,.str (q00 k f).down.inn,.own 2 (q00 k f).down.parts.length],.arr 204 2 ((q00 k f).up.parts.map Part.row),.arr 204 2 ((q00 k f).down.parts.map Part.row)] [.view 0 1 1,.int .i64 k] (λr o=>r=.int .i64 (flE k f)∧o=[.var 169 [.int .i64 (q00 k f).ins.a,.int .i64 (q00 k f).ins.p,.int .i64 (q00 k f).out.a,.int .i64 (q00 k f).out.p,.str (q00 k f).up.inn,.own 1 (q00 k f).up.parts.length,.str (q00 k f).down.inn,.own 2 (q00 k f).down.parts.length],.arr 204 2 ((q00 k f).up.parts.map Part.row),.arr 204 2 ((q00 k f).down.parts.map Part.row)]):=by
 refine mP dg87 Tryz.ntmps87 ⟨_,_,rfl,rfl⟩ ?_
 simp only[qpv,go_sem]
 with_reducible repeat' (first|refine br ?_ ?_<;>intro h e<;>(try simp only[e,go_sem])<;>clear e|rw[q01 (by omega)]|refine sd ?_<;>try simp only[go_sem]|fail)
 refine q0h (qtu f k) (λi=>1 - i) (λi=>i≤1) 0 (by simp only[qtu];exact leN [] (by simp only[go_sem];first|done|omega|rfl) (by simp only[go_sem];first|done|omega|rfl) (by simp[q0b]) (by simp only[go_sem])) (Nat.zero_le _) ?_
 intro i hi
 by_cases i0:i=0
 ·subst i0
  simp only[qtu,go_sem]
  obtain⟨kk,hkk⟩:∃kk,k=kk:=⟨_,rfl⟩
  have hkb:0≤kk∧kk≤200000000000:=by(try simp only[flE,ptB] at *);omega
  obtain⟨h1,h2⟩:=bf
  obtain⟨q,hq⟩:∃q,kk+5+2*(f.up.parts.length:Int)=q:=⟨_,rfl⟩
  have hq1:kk+6+2*(f.up.parts.length:Int)=q+1:=by omega
  have hq2:q+1+2*(f.down.parts.length:Int)=flE kk f:=by simp only[flE];omega
  have hn1:¬q<0:=by omega
  have hn2:¬flE kk f<0:=by omega
  have w1:IntKind.i64.wrap (kk+1)=kk+1:=q01 (by omega)
  have w2:IntKind.i64.wrap (kk+2)=kk+2:=q01 (by omega)
  have w3:IntKind.i64.wrap (kk+3)=kk+3:=q01 (by omega)
  have w4:IntKind.i64.wrap (kk+4)=kk+4:=q01 (by omega)
  have w5:IntKind.i64.wrap (kk+5)=kk+5:=q01 (by omega)
  have wq:IntKind.i64.wrap (q+1)=q+1:=q01 (by omega)
  simp only[hkk,k11,k21,k31,k41,w1,w2,w3,w4,w5,q00,hq,hq1,go_sem]
  with_reducible repeat' (first|rw[q01 (by omega)];try simp only[go_sem,k11,k21,k31,k41,w1,w2,w3,w4,w5,q00,hq,hq1,not_true_eq_false,decide_false]|refine br ?_ ?_<;>intro h e<;>(try simp only[e,go_sem,k11,k21,k31,k41,w1,w2,w3,w4,w5,q00,hq,hq1,not_true_eq_false,decide_false])<;>clear e|refine sd ?_<;>try simp only[go_sem,k11,k21,k31,k41,w1,w2,w3,w4,w5,q00,hq,hq1,not_true_eq_false,decide_false]|(first|refine cr (c34 _ (by omega)) ?_)<;>try simp only[go_sem,k11,k21,k31,k41,w1,w2,w3,w4,w5,q00,hq,hq1,not_true_eq_false,decide_false]|fail)
  refine q0l (qox f.up.parts.length (kk+5) h1 (by omega)) [1] false (by simp only[go_sem];first|done|simp) (by simp only[List.mem_cons,List.not_mem_nil,or_false];rintro c (rfl)<;>simp only[go_sem]) rfl (.inr rfl) ?_
  simp only[go_sem,hq,hn1]
  try simp only[hq]
  with_reducible repeat' (first|rw[q01 (by omega)];try simp only[go_sem,q00,hq,hq1,hn1,wq,not_true_eq_false,decide_false]|refine br ?_ ?_<;>intro h e<;>(try simp only[e,go_sem,q00,hq,hq1,hn1,wq,not_true_eq_false,decide_false])<;>clear e|refine sd ?_<;>try simp only[go_sem,q00,hq,hq1,hn1,wq,not_true_eq_false,decide_false]|(first|refine cr (c34 _ (by omega)) ?_)<;>try simp only[go_sem,q00,hq,hq1,hn1,wq,not_true_eq_false,decide_false]|fail)
  refine q0l (qox f.down.parts.length (q+1) h2 (by omega)) [2] false (by simp only[go_sem];first|done|simp) (by simp only[List.mem_cons,List.not_mem_nil,or_false];rintro c (rfl)<;>simp only[go_sem]) rfl (.inr rfl) ?_
  simp only[go_sem,hq2,hn2]
  try simp only[hq2]
  with_reducible repeat' (first|rw[q01 (by omega)];try simp only[go_sem,hq2,hn2]|refine br ?_ ?_<;>intro h e<;>(try simp only[e,go_sem,hq2,hn2])<;>clear e|refine sd ?_<;>try simp only[go_sem,hq2,hn2]|fail)
  exact⟨1,by omega,by omega,by simp only[qtu];exact leN [] (by simp only[go_sem,hkk,hq2];first|done|omega|rfl) (by simp only[go_sem,hkk,q00,q02,hq,hq1];first|done|omega|rfl) (by simp[q0b]) (by simp only[go_sem])⟩
 obtain rfl:i=1:=by omega
 simp only[qtu,go_sem]
 with_reducible repeat' (first|refine br ?_ ?_<;>intro h e<;>(try simp only[e,go_sem])<;>clear e|rw[q01 (by omega)]|refine sd ?_<;>try simp only[go_sem]|fail)
 exact q0v (.int .i64 (flE k f)) [.var 169 [.int .i64 (q00 k f).ins.a,.int .i64 (q00 k f).ins.p,.int .i64 (q00 k f).out.a,.int .i64 (q00 k f).out.p,.str (q00 k f).up.inn,.own 1 (q00 k f).up.parts.length,.str (q00 k f).down.inn,.own 2 (q00 k f).down.parts.length],.arr 204 2 ((q00 k f).up.parts.map Part.row),.arr 204 2 ((q00 k f).down.parts.map Part.row)] [] (by simp only[go_sem]) ⟨rfl,rfl⟩ (by simp only[go_sem]) (by simp[q0r,q0b]) (by simp only[go_sem])
set_option maxHeartbeats 4000000 in
theorem n135 (l:List Pair) (m:Nat) (f:Flw) (k:Int) (hm:l.length=m) (hm2:m≤1048576) (hk:0≤k∧k≤20000000000) (bf:ptB f):FnP Tryz.prog G 35 4 [.arr 145 3 (l.map Pair.row),.var 169 [.int .i64 f.ins.a,.int .i64 f.ins.p,.int .i64 f.out.a,.int .i64 f.out.p,.str f.up.inn,.own 2 f.up.parts.length,.str f.down.inn,.own 3 f.down.parts.length],.arr 204 2 (f.up.parts.map Part.row),.arr 204 2 (f.down.parts.map Part.row)] [.agg [.own 0 m,.view 1 1 1],.int .i64 k] (λr o=>r=.int .i64 (flE (k+3*m) f)∧o=[.arr 145 3 ((mkS q2o 3 k m).map Pair.row),.var 169 [.int .i64 (q00 (k+3*m) f).ins.a,.int .i64 (q00 (k+3*m) f).ins.p,.int .i64 (q00 (k+3*m) f).out.a,.int .i64 (q00 (k+3*m) f).out.p,.str (q00 (k+3*m) f).up.inn,.own 2 (q00 (k+3*m) f).up.parts.length,.str (q00 (k+3*m) f).down.inn,.own 3 (q00 (k+3*m) f).down.parts.length],.arr 204 2 ((q00 (k+3*m) f).up.parts.map Part.row),.arr 204 2 ((q00 (k+3*m) f).down.parts.map Part.row)]):=by
 subst hm
 refine mP dg35 Tryz.ntmps35 ⟨_,_,rfl,rfl⟩ ?_
 simp only[qvv,go_sem]
 with_reducible repeat' (first|refine br ?_ ?_<;>intro h e<;>(try simp only[e,go_sem])<;>clear e|rw[q01 (by omega)]|refine sd ?_<;>try simp only[go_sem]|fail)
 refine q0f (c84 l k hm2 (by omega)) [0] [] true 8 1 (by simp only[go_sem];first|done|simp) (by simp only[go_sem];first|done|simp) (by simp) (by simp) (by simp) ?_ ?_ ?_
 ·rintro _ _ ⟨rfl,rfl⟩
  exact⟨by simp,by simp,.inl rfl,λi hi=>by obtain rfl:i=0:=(by omega);(simp[chH,q07,q02,q00];try omega)⟩
 ·intro i hi;obtain rfl:i=0:=(by omega);simp only[go_sem]
 rintro _ _ ⟨rfl,rfl⟩
 simp only[go_sem]
 with_reducible repeat' (first|refine br ?_ ?_<;>intro h e<;>(try simp only[e,go_sem])<;>clear e|rw[q01 (by omega)]|refine sd ?_<;>try simp only[go_sem]|fail)
 refine q0f (n185 f (k+3*l.length) (by omega) bf) [1,2,3] [] true 12 3 (by simp only[go_sem];first|done|simp) (by simp only[go_sem];first|done|simp) (by simp) (by simp) (by simp) ?_ ?_ ?_
 ·rintro _ _ ⟨rfl,rfl⟩
  exact⟨by simp,by simp,.inl rfl,λi hi=>by rcases(show i=0∨i=1∨i=2 by omega) with rfl|rfl|rfl<;>(simp[chH,q07,q02,q00];try omega)⟩
 ·intro i hi;rcases(show i=0∨i=1∨i=2 by omega) with rfl|rfl|rfl<;>simp only[go_sem]
 rintro _ _ ⟨rfl,rfl⟩
 simp only[go_sem]
 with_reducible repeat' (first|refine br ?_ ?_<;>intro h e<;>(try simp only[e,go_sem])<;>clear e|rw[q01 (by omega)]|refine sd ?_<;>try simp only[go_sem]|fail)
 exact q0v (.int .i64 (flE (k+3*l.length) f)) [.arr 145 3 ((mkS q2o 3 k l.length).map Pair.row),.var 169 [.int .i64 (q00 (k+3*l.length) f).ins.a,.int .i64 (q00 (k+3*l.length) f).ins.p,.int .i64 (q00 (k+3*l.length) f).out.a,.int .i64 (q00 (k+3*l.length) f).out.p,.str (q00 (k+3*l.length) f).up.inn,.own 2 (q00 (k+3*l.length) f).up.parts.length,.str (q00 (k+3*l.length) f).down.inn,.own 3 (q00 (k+3*l.length) f).down.parts.length],.arr 204 2 ((q00 (k+3*l.length) f).up.parts.map Part.row),.arr 204 2 ((q00 (k+3*l.length) f).down.parts.map Part.row)] [] (by simp only[go_sem]) ⟨rfl,rfl⟩ (by simp only[go_sem]) (by simp[q0r,q0b]) (by simp only[go_sem])
set_option maxHeartbeats 4000000 in
theorem n138 (m:Nat) (f:Flw) (k:Int) (hm2:m≤1048576) (hk:0≤k∧k≤20000000000) (bf:ptB f):FnP Tryz.prog G 38 4 [.arr 145 3 ((mkS q2o 3 k m).map Pair.row),.var 169 [.int .i64 (q00 (k+3*m) f).ins.a,.int .i64 (q00 (k+3*m) f).ins.p,.int .i64 (q00 (k+3*m) f).out.a,.int .i64 (q00 (k+3*m) f).out.p,.str (q00 (k+3*m) f).up.inn,.own 2 (q00 (k+3*m) f).up.parts.length,.str (q00 (k+3*m) f).down.inn,.own 3 (q00 (k+3*m) f).down.parts.length],.arr 204 2 ((q00 (k+3*m) f).up.parts.map Part.row),.arr 204 2 ((q00 (k+3*m) f).down.parts.map Part.row)] [.agg [.own 0 m,.view 1 1 1],.int .i64 k] (λr o=>r=.int .i64 (flE (k+3*m) f)∧o=[.arr 145 3 ((mkS q2o 3 k m).map Pair.row),.var 169 [.int .i64 (q00 (k+3*m) f).ins.a,.int .i64 (q00 (k+3*m) f).ins.p,.int .i64 (q00 (k+3*m) f).out.a,.int .i64 (q00 (k+3*m) f).out.p,.str (q00 (k+3*m) f).up.inn,.own 2 (q00 (k+3*m) f).up.parts.length,.str (q00 (k+3*m) f).down.inn,.own 3 (q00 (k+3*m) f).down.parts.length],.arr 204 2 ((q00 (k+3*m) f).up.parts.map Part.row),.arr 204 2 ((q00 (k+3*m) f).down.parts.map Part.row)]):=by
 refine mP dg38 Tryz.ntmps38 ⟨_,_,rfl,rfl⟩ ?_
 have n1:¬k+3*(m:Int)<0:=by omega
 have n2:¬flE (k+3*m) f<0:=by(try simp only[flE]);omega
 simp only[qta,go_sem]
 with_reducible repeat' (first|refine br ?_ ?_<;>intro h e<;>(try simp only[e,go_sem])<;>clear e|rw[q01 (by omega)]|refine sd ?_<;>try simp only[go_sem]|fail)
 refine q0l (c86 m k hm2 (by omega)) [0] false (by simp only[go_sem];first|done|simp[q02]) (by simp only[List.mem_cons,List.not_mem_nil,or_false];rintro c (rfl)<;>simp only[go_sem]) rfl (.inr rfl) ?_
 simp only[go_sem,n1]
 with_reducible repeat' (first|refine br ?_ ?_<;>intro h e<;>(try simp only[e,go_sem,n1])<;>clear e|rw[q01 (by omega)]|refine sd ?_<;>try simp only[go_sem,n1]|fail)
 refine q0f (n187 f (k+3*m) (by omega) bf) [1,2,3] [] true 14 3 (by simp only[go_sem,n2];first|done|simp) (by simp only[go_sem,n2];first|done|simp) (by simp) (by simp) (by simp) ?_ ?_ ?_
 ·rintro _ _ ⟨rfl,rfl⟩
  exact⟨by simp,by simp,.inl rfl,λi hi=>by rcases(show i=0∨i=1∨i=2 by omega) with rfl|rfl|rfl<;>(simp[chH,q07,q02,q00];try omega)⟩
 ·intro i hi;rcases(show i=0∨i=1∨i=2 by omega) with rfl|rfl|rfl<;>simp only[go_sem]
 rintro _ _ ⟨rfl,rfl⟩
 simp only[go_sem,n2]
 with_reducible repeat' (first|refine br ?_ ?_<;>intro h e<;>(try simp only[e,go_sem,n2])<;>clear e|rw[q01 (by omega)]|refine sd ?_<;>try simp only[go_sem,n2]|fail)
 exact q0v (.int .i64 (flE (k+3*m) f)) [.arr 145 3 ((mkS q2o 3 k m).map Pair.row),.var 169 [.int .i64 (q00 (k+3*m) f).ins.a,.int .i64 (q00 (k+3*m) f).ins.p,.int .i64 (q00 (k+3*m) f).out.a,.int .i64 (q00 (k+3*m) f).out.p,.str (q00 (k+3*m) f).up.inn,.own 2 (q00 (k+3*m) f).up.parts.length,.str (q00 (k+3*m) f).down.inn,.own 3 (q00 (k+3*m) f).down.parts.length],.arr 204 2 ((q00 (k+3*m) f).up.parts.map Part.row),.arr 204 2 ((q00 (k+3*m) f).down.parts.map Part.row)] [] (by simp only[go_sem]) ⟨rfl,rfl⟩ (by simp only[go_sem]) (by simp[q0r,q0b]) (by simp only[go_sem])
set_option maxHeartbeats 4000000 in
theorem n116 (cs:List Conv) (l:List Pair) (ps:List Pk) (c m p:Nat) (f:Flw) (k:Int) (hc:cs.length=c) (hm:l.length=m) (hp:ps.length=p) (hc2:c≤1048576) (hm2:m≤1048576) (hp2:p≤1048576) (hk:0≤k∧k≤1000000000) (bf:ptB f) :
 FnP Tryz.prog G 16 6 [.arr 69 10 (cs.map Conv.row),.arr 145 3 (l.map Pair.row),.var 169 [.int .i64 f.ins.a,.int .i64 f.ins.p,.int .i64 f.out.a,.int .i64 f.out.p,.str f.up.inn,.own 4 f.up.parts.length,.str f.down.inn,.own 5 f.down.parts.length],.arr 65 7 (ps.map Pk.row),.arr 204 2 (f.up.parts.map Part.row),.arr 204 2 (f.down.parts.map Part.row)] [.agg [.own 0 c,.own 1 m,.view 2 1 1,.own 3 p],.int .i64 k] (λr o=>r=.int .i64 (flE (k+10*c+3*m) f+7*p)∧o=[.arr 69 10 ((mkS mkC 10 k c).map Conv.row),.arr 145 3 ((mkS q2o 3 (k+10*c) m).map Pair.row),.var 169 [.int .i64 (q00 (k+10*c+3*m) f).ins.a,.int .i64 (q00 (k+10*c+3*m) f).ins.p,.int .i64 (q00 (k+10*c+3*m) f).out.a,.int .i64 (q00 (k+10*c+3*m) f).out.p,.str (q00 (k+10*c+3*m) f).up.inn,.own 4 (q00 (k+10*c+3*m) f).up.parts.length,.str (q00 (k+10*c+3*m) f).down.inn,.own 5 (q00 (k+10*c+3*m) f).down.parts.length],.arr 65 7 ((mkS q3q 7 (flE (k+10*c+3*m) f) p).map Pk.row),.arr 204 2 ((q00 (k+10*c+3*m) f).up.parts.map Part.row),.arr 204 2 ((q00 (k+10*c+3*m) f).down.parts.map Part.row)]):=by
 refine mP dg16 Tryz.ntmps16 ⟨_,_,rfl,rfl⟩ ?_
 have hkb:0≤flE (k+10*c+3*m) f∧flE (k+10*c+3*m) f≤500000000000:=by(try simp only[flE,ptB] at *);omega
 simp only[qu1,go_sem]
 with_reducible repeat' (first|refine br ?_ ?_<;>intro h e<;>(try simp only[e,go_sem])<;>clear e|rw[q01 (by omega)]|refine sd ?_<;>try simp only[go_sem]|fail)
 have c1:=c14 cs k (by omega) (by omega)
 have c2:=c36 ps (flE (k+10*c+3*m) f) (by omega) (by omega)
 rw[hc] at c1
 rw[hp] at c2
 refine q0f (c1) [0] [] true 8 1 (by simp only[go_sem];first|done|simp) (by simp only[go_sem];first|done|simp) (by simp) (by simp) (by simp) ?_ ?_ ?_
 ·rintro _ _ ⟨rfl,rfl⟩
  exact⟨by simp,by simp,.inl rfl,λi hi=>by obtain rfl:i=0:=(by omega);(simp[chH,q07,q02,q00];try omega)⟩
 ·intro i hi;obtain rfl:i=0:=(by omega);simp only[go_sem]
 rintro _ _ ⟨rfl,rfl⟩
 simp only[go_sem]
 with_reducible repeat' (first|refine br ?_ ?_<;>intro h e<;>(try simp only[e,go_sem])<;>clear e|rw[q01 (by omega)]|refine sd ?_<;>try simp only[go_sem]|fail)
 refine q0f (n135 l m f (k+10*c) hm hm2 (by omega) bf) [1,2,4,5] [] true 12 4 (by simp only[go_sem];first|done|simp) (by simp only[go_sem];first|done|simp) (by simp) (by simp) (by simp) ?_ ?_ ?_
 ·rintro _ _ ⟨rfl,rfl⟩
  exact⟨by simp,by simp,.inl rfl,λi hi=>by rcases(show i=0∨i=1∨i=2∨i=3 by omega) with rfl|rfl|rfl|rfl<;>(simp[chH,q07,q02,q00];try omega)⟩
 ·intro i hi;rcases(show i=0∨i=1∨i=2∨i=3 by omega) with rfl|rfl|rfl|rfl<;>simp only[go_sem]
 rintro _ _ ⟨rfl,rfl⟩
 simp only[go_sem]
 with_reducible repeat' (first|refine br ?_ ?_<;>intro h e<;>(try simp only[e,go_sem])<;>clear e|rw[q01 (by omega)]|refine sd ?_<;>try simp only[go_sem]|fail)
 refine q0f (c2) [3] [] true 16 1 (by simp only[go_sem];first|done|simp) (by simp only[go_sem];first|done|simp) (by simp) (by simp) (by simp) ?_ ?_ ?_
 ·rintro _ _ ⟨rfl,rfl⟩
  exact⟨by simp,by simp,.inl rfl,λi hi=>by obtain rfl:i=0:=(by omega);(simp[chH,q07,q02,q00];try omega)⟩
 ·intro i hi;obtain rfl:i=0:=(by omega);simp only[go_sem]
 rintro _ _ ⟨rfl,rfl⟩
 simp only[go_sem]
 with_reducible repeat' (first|refine br ?_ ?_<;>intro h e<;>(try simp only[e,go_sem])<;>clear e|rw[q01 (by omega)]|refine sd ?_<;>try simp only[go_sem]|fail)
 exact q0v (.int .i64 (flE (k+10*c+3*m) f+7*p)) [.arr 69 10 ((mkS mkC 10 k c).map Conv.row),.arr 145 3 ((mkS q2o 3 (k+10*c) m).map Pair.row),.var 169 [.int .i64 (q00 (k+10*c+3*m) f).ins.a,.int .i64 (q00 (k+10*c+3*m) f).ins.p,.int .i64 (q00 (k+10*c+3*m) f).out.a,.int .i64 (q00 (k+10*c+3*m) f).out.p,.str (q00 (k+10*c+3*m) f).up.inn,.own 4 (q00 (k+10*c+3*m) f).up.parts.length,.str (q00 (k+10*c+3*m) f).down.inn,.own 5 (q00 (k+10*c+3*m) f).down.parts.length],.arr 65 7 ((mkS q3q 7 (flE (k+10*c+3*m) f) p).map Pk.row),.arr 204 2 ((q00 (k+10*c+3*m) f).up.parts.map Part.row),.arr 204 2 ((q00 (k+10*c+3*m) f).down.parts.map Part.row)] [] (by simp only[go_sem]) ⟨rfl,rfl⟩ (by simp only[go_sem]) (by simp[q0r,q0b]) (by simp only[go_sem])
set_option maxHeartbeats 4000000 in
theorem n117 (c m p:Nat) (f:Flw) (k:Int) (hc2:c≤1048576) (hm2:m≤1048576) (hp2:p≤1048576) (hk:0≤k∧k≤1000000000) (bf:ptB f) :
 FnP Tryz.prog G 17 6 [.arr 69 10 ((mkS mkC 10 k c).map Conv.row),.arr 145 3 ((mkS q2o 3 (k+10*c) m).map Pair.row),.var 169 [.int .i64 (q00 (k+10*c+3*m) f).ins.a,.int .i64 (q00 (k+10*c+3*m) f).ins.p,.int .i64 (q00 (k+10*c+3*m) f).out.a,.int .i64 (q00 (k+10*c+3*m) f).out.p,.str (q00 (k+10*c+3*m) f).up.inn,.own 4 (q00 (k+10*c+3*m) f).up.parts.length,.str (q00 (k+10*c+3*m) f).down.inn,.own 5 (q00 (k+10*c+3*m) f).down.parts.length],.arr 65 7 ((mkS q3q 7 (flE (k+10*c+3*m) f) p).map Pk.row),.arr 204 2 ((q00 (k+10*c+3*m) f).up.parts.map Part.row),.arr 204 2 ((q00 (k+10*c+3*m) f).down.parts.map Part.row)] [.agg [.own 0 c,.own 1 m,.view 2 1 1,.own 3 p],.int .i64 k] (λr o=>r=.int .i64 (flE (k+10*c+3*m) f+7*p)∧o=[.arr 69 10 ((mkS mkC 10 k c).map Conv.row),.arr 145 3 ((mkS q2o 3 (k+10*c) m).map Pair.row),.var 169 [.int .i64 (q00 (k+10*c+3*m) f).ins.a,.int .i64 (q00 (k+10*c+3*m) f).ins.p,.int .i64 (q00 (k+10*c+3*m) f).out.a,.int .i64 (q00 (k+10*c+3*m) f).out.p,.str (q00 (k+10*c+3*m) f).up.inn,.own 4 (q00 (k+10*c+3*m) f).up.parts.length,.str (q00 (k+10*c+3*m) f).down.inn,.own 5 (q00 (k+10*c+3*m) f).down.parts.length],.arr 65 7 ((mkS q3q 7 (flE (k+10*c+3*m) f) p).map Pk.row),.arr 204 2 ((q00 (k+10*c+3*m) f).up.parts.map Part.row),.arr 204 2 ((q00 (k+10*c+3*m) f).down.parts.map Part.row)]):=by
 refine mP dg17 Tryz.ntmps17 ⟨_,_,rfl,rfl⟩ ?_
 have hkb:0≤flE (k+10*c+3*m) f∧flE (k+10*c+3*m) f≤500000000000:=by(try simp only[flE,ptB] at *);omega
 have n1:¬k+10*(c:Int)<0:=by omega
 have n2:¬flE (k+10*c+3*m) f<0:=by omega
 have n3:¬flE (k+10*c+3*m) f+7*p<0:=by omega
 simp only[qx3,go_sem]
 with_reducible repeat' (first|refine br ?_ ?_<;>intro h e<;>(try simp only[e,go_sem])<;>clear e|rw[q01 (by omega)]|refine sd ?_<;>try simp only[go_sem]|fail)
 refine q0l (c37 c k hc2 (by omega)) [0] false (by simp only[go_sem];first|done|simp[q02]) (by simp only[List.mem_cons,List.not_mem_nil,or_false];rintro c (rfl)<;>simp only[go_sem]) rfl (.inr rfl) ?_
 simp only[go_sem,n1]
 with_reducible repeat' (first|refine br ?_ ?_<;>intro h e<;>(try simp only[e,go_sem,n1])<;>clear e|rw[q01 (by omega)]|refine sd ?_<;>try simp only[go_sem,n1]|fail)
 refine q0f (n138 m f (k+10*c) hm2 (by omega) bf) [1,2,4,5] [] true 14 4 (by simp only[go_sem,n2];first|done|simp) (by simp only[go_sem,n2];first|done|simp) (by simp) (by simp) (by simp) ?_ ?_ ?_
 ·rintro _ _ ⟨rfl,rfl⟩
  exact⟨by simp,by simp,.inl rfl,λi hi=>by rcases(show i=0∨i=1∨i=2∨i=3 by omega) with rfl|rfl|rfl|rfl<;>(simp[chH,q07,q02,q00];try omega)⟩
 ·intro i hi;rcases(show i=0∨i=1∨i=2∨i=3 by omega) with rfl|rfl|rfl|rfl<;>simp only[go_sem]
 rintro _ _ ⟨rfl,rfl⟩
 simp only[go_sem,n2]
 with_reducible repeat' (first|refine br ?_ ?_<;>intro h e<;>(try simp only[e,go_sem,n2])<;>clear e|rw[q01 (by omega)]|refine sd ?_<;>try simp only[go_sem,n2]|fail)
 refine q0l (c39 p (flE (k+10*c+3*m) f) hp2 (by omega)) [3] false (by simp only[go_sem];first|done|simp[q02]) (by simp only[List.mem_cons,List.not_mem_nil,or_false];rintro c (rfl)<;>simp only[go_sem]) rfl (.inr rfl) ?_
 simp only[go_sem,n3]
 with_reducible repeat' (first|refine br ?_ ?_<;>intro h e<;>(try simp only[e,go_sem,n3])<;>clear e|rw[q01 (by omega)]|refine sd ?_<;>try simp only[go_sem,n3]|fail)
 exact q0v (.int .i64 (flE (k+10*c+3*m) f+7*p)) [.arr 69 10 ((mkS mkC 10 k c).map Conv.row),.arr 145 3 ((mkS q2o 3 (k+10*c) m).map Pair.row),.var 169 [.int .i64 (q00 (k+10*c+3*m) f).ins.a,.int .i64 (q00 (k+10*c+3*m) f).ins.p,.int .i64 (q00 (k+10*c+3*m) f).out.a,.int .i64 (q00 (k+10*c+3*m) f).out.p,.str (q00 (k+10*c+3*m) f).up.inn,.own 4 (q00 (k+10*c+3*m) f).up.parts.length,.str (q00 (k+10*c+3*m) f).down.inn,.own 5 (q00 (k+10*c+3*m) f).down.parts.length],.arr 65 7 ((mkS q3q 7 (flE (k+10*c+3*m) f) p).map Pk.row),.arr 204 2 ((q00 (k+10*c+3*m) f).up.parts.map Part.row),.arr 204 2 ((q00 (k+10*c+3*m) f).down.parts.map Part.row)] [] (by simp only[go_sem]) ⟨rfl,rfl⟩ (by simp only[go_sem]) (by simp[q0r,q0b]) (by simp only[go_sem])
set_option maxHeartbeats 2000000 in
theorem n281 (l:List Flw) (f g:Flw) (hfs:l=[f,g]) (bf:ptB f) (bg:ptB g):FnP Tryz.prog G 81 5 [.var 169 [.int .i64 f.ins.a,.int .i64 f.ins.p,.int .i64 f.out.a,.int .i64 f.out.p,.str f.up.inn,.own 1 f.up.parts.length,.str f.down.inn,.own 2 f.down.parts.length,.int .i64 g.ins.a,.int .i64 g.ins.p,.int .i64 g.out.a,.int .i64 g.out.p,.str g.up.inn,.own 3 g.up.parts.length,.str g.down.inn,.own 4 g.down.parts.length],.arr 204 2 (f.up.parts.map Part.row),.arr 204 2 (f.down.parts.map Part.row),.arr 204 2 (g.up.parts.map Part.row),.arr 204 2 (g.down.parts.map Part.row)] [.view 0 2 2,.sl 8 (l.map Flw.row)] (λr o=>r=.bool true∧o=[.var 169 [.int .i64 f.ins.a,.int .i64 f.ins.p,.int .i64 f.out.a,.int .i64 f.out.p,.str f.up.inn,.own 1 f.up.parts.length,.str f.down.inn,.own 2 f.down.parts.length,.int .i64 g.ins.a,.int .i64 g.ins.p,.int .i64 g.out.a,.int .i64 g.out.p,.str g.up.inn,.own 3 g.up.parts.length,.str g.down.inn,.own 4 g.down.parts.length],.arr 204 2 (f.up.parts.map Part.row),.arr 204 2 (f.down.parts.map Part.row),.arr 204 2 (g.up.parts.map Part.row),.arr 204 2 (g.down.parts.map Part.row)]):=by
 refine mP dg81 Tryz.ntmps81 ⟨_,_,rfl,rfl⟩ ?_
 have hln:(l.length:Int)=2:=by rw[hfs];rfl
 simp only[qqq,go_sem,hln]
 with_reducible repeat' (first|refine br ?_ ?_<;>intro h e<;>(try simp only[e,go_sem,hln])<;>clear e|rw[q01 (by omega)]|refine sd ?_<;>try simp only[go_sem,hln]|fail)
 refine q0h (λk:Nat=>⟨q0e [(0,.view 0 2 2),(1,.sl 8 (l.map Flw.row)),(5,.int .i64 (k:Int))],q09 [(0,.var 169 [.int .i64 f.ins.a,.int .i64 f.ins.p,.int .i64 f.out.a,.int .i64 f.out.p,.str f.up.inn,.own 1 f.up.parts.length,.str f.down.inn,.own 2 f.down.parts.length,.int .i64 g.ins.a,.int .i64 g.ins.p,.int .i64 g.out.a,.int .i64 g.out.p,.str g.up.inn,.own 3 g.up.parts.length,.str g.down.inn,.own 4 g.down.parts.length]),(1,.arr 204 2 (f.up.parts.map Part.row)),(2,.arr 204 2 (f.down.parts.map Part.row)),(3,.arr 204 2 (g.up.parts.map Part.row)),(4,.arr 204 2 (g.down.parts.map Part.row))]⟩) (λk=>2 - k) (λk=>k≤2) 0 (leN [] (by simp only[go_sem];first|done|omega|rfl) (by simp only[go_sem];first|done|omega|rfl) (by simp[q0b]) (by simp only[go_sem])) (Nat.zero_le _) ?_
 intro k hk
 by_cases k0:k=0
 ·subst k0
  have hg:l.getD 0 default=f:=by rw[hfs];rfl
  simp only[go_sem]
  with_reducible repeat' (first|refine br ?_ ?_<;>intro h e<;>(try simp only[e,go_sem,hg,hln])<;>clear e|rw[q01 (by omega)]|refine sd ?_<;>try simp only[go_sem,hg,hln]|fail)
  refine q0l (c138 f bf) [1,2] false (by simp only[go_sem];first|done|simp) (by simp only[List.mem_cons,List.not_mem_nil,or_false];rintro c (rfl|rfl)<;>simp only[go_sem]) rfl (.inr rfl) ?_
  simp only[go_sem]
  with_reducible repeat' (first|refine br ?_ ?_<;>intro h e<;>(try simp only[e,go_sem,hg,hln])<;>clear e|rw[q01 (by omega)]|refine sd ?_<;>try simp only[go_sem,hg,hln]|fail)
  exact⟨1,by omega,by omega,leN [] (by simp only[go_sem];first|done|omega|rfl) (by simp only[go_sem];first|done|omega|rfl) (by simp[q0b]) (by simp only[go_sem])⟩
 by_cases k1:k=1
 ·subst k1
  have hg:l.getD 1 default=g:=by rw[hfs];rfl
  simp only[go_sem]
  with_reducible repeat' (first|refine br ?_ ?_<;>intro h e<;>(try simp only[e,go_sem,hg,hln])<;>clear e|rw[q01 (by omega)]|refine sd ?_<;>try simp only[go_sem,hg,hln]|fail)
  refine q0l (c138 g bg) [3,4] false (by simp only[go_sem];first|done|simp) (by simp only[List.mem_cons,List.not_mem_nil,or_false];rintro c (rfl|rfl)<;>simp only[go_sem]) rfl (.inr rfl) ?_
  simp only[go_sem]
  with_reducible repeat' (first|refine br ?_ ?_<;>intro h e<;>(try simp only[e,go_sem,hg,hln])<;>clear e|rw[q01 (by omega)]|refine sd ?_<;>try simp only[go_sem,hg,hln]|fail)
  exact⟨2,by omega,by omega,leN [] (by simp only[go_sem];first|done|omega|rfl) (by simp only[go_sem];first|done|omega|rfl) (by simp[q0b]) (by simp only[go_sem])⟩
 obtain rfl:k=2:=by omega
 simp only[go_sem]
 with_reducible repeat' (first|refine br ?_ ?_<;>intro h e<;>(try simp only[e,go_sem,hln])<;>clear e|rw[q01 (by omega)]|refine sd ?_<;>try simp only[go_sem,hln]|fail)
 exact q0v (.bool true) [.var 169 [.int .i64 f.ins.a,.int .i64 f.ins.p,.int .i64 f.out.a,.int .i64 f.out.p,.str f.up.inn,.own 1 f.up.parts.length,.str f.down.inn,.own 2 f.down.parts.length,.int .i64 g.ins.a,.int .i64 g.ins.p,.int .i64 g.out.a,.int .i64 g.out.p,.str g.up.inn,.own 3 g.up.parts.length,.str g.down.inn,.own 4 g.down.parts.length],.arr 204 2 (f.up.parts.map Part.row),.arr 204 2 (f.down.parts.map Part.row),.arr 204 2 (g.up.parts.map Part.row),.arr 204 2 (g.down.parts.map Part.row)] [] (by simp only[go_sem]) ⟨rfl,rfl⟩ (by simp only[go_sem]) (by simp[q0r,q0b]) (by simp only[go_sem])
set_option maxHeartbeats 2000000 in
theorem n230 (d:Door) (f g:Flw) (hfs:d.flows=[f,g]) (hm:d.map.length≤2000000) (bf:ptB f) (bg:ptB g):FnP Tryz.prog G 30 6 [.arr 145 3 (d.map.map Pair.row),.var 169 [.int .i64 f.ins.a,.int .i64 f.ins.p,.int .i64 f.out.a,.int .i64 f.out.p,.str f.up.inn,.own 2 f.up.parts.length,.str f.down.inn,.own 3 f.down.parts.length,.int .i64 g.ins.a,.int .i64 g.ins.p,.int .i64 g.out.a,.int .i64 g.out.p,.str g.up.inn,.own 4 g.up.parts.length,.str g.down.inn,.own 5 g.down.parts.length],.arr 204 2 (f.up.parts.map Part.row),.arr 204 2 (f.down.parts.map Part.row),.arr 204 2 (g.up.parts.map Part.row),.arr 204 2 (g.down.parts.map Part.row)] [.agg [.own 0 d.map.length,.view 1 2 2],.agg [.sl 3 (d.map.map Pair.row),.sl 8 (d.flows.map Flw.row)]] (λr o=>r=.bool true∧o=[.arr 145 3 (d.map.map Pair.row),.var 169 [.int .i64 f.ins.a,.int .i64 f.ins.p,.int .i64 f.out.a,.int .i64 f.out.p,.str f.up.inn,.own 2 f.up.parts.length,.str f.down.inn,.own 3 f.down.parts.length,.int .i64 g.ins.a,.int .i64 g.ins.p,.int .i64 g.out.a,.int .i64 g.out.p,.str g.up.inn,.own 4 g.up.parts.length,.str g.down.inn,.own 5 g.down.parts.length],.arr 204 2 (f.up.parts.map Part.row),.arr 204 2 (f.down.parts.map Part.row),.arr 204 2 (g.up.parts.map Part.row),.arr 204 2 (g.down.parts.map Part.row)]):=by
 refine mP dg30 Tryz.ntmps30 ⟨_,_,rfl,rfl⟩ ?_
 simp only[qr7,go_sem]
 with_reducible repeat' (first|refine br ?_ ?_<;>intro h e<;>(try simp only[e,go_sem])<;>clear e|rw[q01 (by omega)]|refine sd ?_<;>try simp only[go_sem]|fail)
 refine q0l (c80 d.map hm) [0] false (by simp only[go_sem];first|done|simp) (by simp only[List.mem_cons,List.not_mem_nil,or_false];rintro c (rfl)<;>simp only[go_sem]) rfl (.inr rfl) ?_
 simp only[go_sem]
 with_reducible repeat' (first|refine br ?_ ?_<;>intro h e<;>(try simp only[e,go_sem])<;>clear e|rw[q01 (by omega)]|refine sd ?_<;>try simp only[go_sem]|fail)
 refine q0f (n281 d.flows f g hfs bf bg) [1,2,3,4,5] [] true 15 5 (by simp only[go_sem];first|done|simp) (by simp only[go_sem];first|done|simp) (by simp) (by simp) (by simp) ?_ ?_ ?_
 ·rintro _ _ ⟨rfl,rfl⟩
  exact⟨by simp,by simp,.inl rfl,λi hi=>by rcases(show i=0∨i=1∨i=2∨i=3∨i=4 by omega) with rfl|rfl|rfl|rfl|rfl<;>(simp[chH,q07,q02,q00];try omega)⟩
 ·intro i hi;rcases(show i=0∨i=1∨i=2∨i=3∨i=4 by omega) with rfl|rfl|rfl|rfl|rfl<;>simp only[go_sem]
 rintro _ _ ⟨rfl,rfl⟩
 simp only[go_sem]
 with_reducible repeat' (first|refine br ?_ ?_<;>intro h e<;>(try simp only[e,go_sem])<;>clear e|rw[q01 (by omega)]|refine sd ?_<;>try simp only[go_sem]|fail)
 exact q0v (.bool true) [.arr 145 3 (d.map.map Pair.row),.var 169 [.int .i64 f.ins.a,.int .i64 f.ins.p,.int .i64 f.out.a,.int .i64 f.out.p,.str f.up.inn,.own 2 f.up.parts.length,.str f.down.inn,.own 3 f.down.parts.length,.int .i64 g.ins.a,.int .i64 g.ins.p,.int .i64 g.out.a,.int .i64 g.out.p,.str g.up.inn,.own 4 g.up.parts.length,.str g.down.inn,.own 5 g.down.parts.length],.arr 204 2 (f.up.parts.map Part.row),.arr 204 2 (f.down.parts.map Part.row),.arr 204 2 (g.up.parts.map Part.row),.arr 204 2 (g.down.parts.map Part.row)] [] (by simp only[go_sem]) ⟨rfl,rfl⟩ (by simp only[go_sem]) (by simp[q0r,q0b]) (by simp only[go_sem])
set_option maxHeartbeats 2000000 in
theorem n211 (w:M.World) (f g:Flw) (hfs:w.door.flows=[f,g]) (hc:w.convs.length≤2000000) (hm:w.door.map.length≤2000000) (hn:w.nets.length≤2000000) (bf:ptB f) (bg:ptB g):FnP Tryz.prog G 11 8 [.arr 69 10 (w.convs.map Conv.row),.arr 145 3 (w.door.map.map Pair.row),.var 169 [.int .i64 f.ins.a,.int .i64 f.ins.p,.int .i64 f.out.a,.int .i64 f.out.p,.str f.up.inn,.own 4 f.up.parts.length,.str f.down.inn,.own 5 f.down.parts.length,.int .i64 g.ins.a,.int .i64 g.ins.p,.int .i64 g.out.a,.int .i64 g.out.p,.str g.up.inn,.own 6 g.up.parts.length,.str g.down.inn,.own 7 g.down.parts.length],.arr 65 7 (w.nets.map Pk.row),.arr 204 2 (f.up.parts.map Part.row),.arr 204 2 (f.down.parts.map Part.row),.arr 204 2 (g.up.parts.map Part.row),.arr 204 2 (g.down.parts.map Part.row)] [.agg [.own 0 w.convs.length,.own 1 w.door.map.length,.view 2 2 2,.own 3 w.nets.length],.agg [.sl 10 (w.convs.map Conv.row),.sl 3 (w.door.map.map Pair.row),.sl 8 (w.door.flows.map Flw.row),.sl 7 (w.nets.map Pk.row)]] (λr o=>r=.bool true∧o=[.arr 69 10 (w.convs.map Conv.row),.arr 145 3 (w.door.map.map Pair.row),.var 169 [.int .i64 f.ins.a,.int .i64 f.ins.p,.int .i64 f.out.a,.int .i64 f.out.p,.str f.up.inn,.own 4 f.up.parts.length,.str f.down.inn,.own 5 f.down.parts.length,.int .i64 g.ins.a,.int .i64 g.ins.p,.int .i64 g.out.a,.int .i64 g.out.p,.str g.up.inn,.own 6 g.up.parts.length,.str g.down.inn,.own 7 g.down.parts.length],.arr 65 7 (w.nets.map Pk.row),.arr 204 2 (f.up.parts.map Part.row),.arr 204 2 (f.down.parts.map Part.row),.arr 204 2 (g.up.parts.map Part.row),.arr 204 2 (g.down.parts.map Part.row)]):=by
 refine mP dg11 Tryz.ntmps11 ⟨_,_,rfl,rfl⟩ ?_
 simp only[qvk,go_sem]
 with_reducible repeat' (first|refine br ?_ ?_<;>intro h e<;>(try simp only[e,go_sem])<;>clear e|rw[q01 (by omega)]|refine sd ?_<;>try simp only[go_sem]|fail)
 refine q0l (c12 w.convs hc) [0] false (by simp only[go_sem];first|done|simp) (by simp only[List.mem_cons,List.not_mem_nil,or_false];rintro c (rfl)<;>simp only[go_sem]) rfl (.inr rfl) ?_
 simp only[go_sem]
 with_reducible repeat' (first|refine br ?_ ?_<;>intro h e<;>(try simp only[e,go_sem])<;>clear e|rw[q01 (by omega)]|refine sd ?_<;>try simp only[go_sem]|fail)
 refine q0f (n230 w.door f g hfs hm bf bg) [1,2,4,5,6,7] [] true 15 6 (by simp only[go_sem];first|done|simp) (by simp only[go_sem];first|done|simp) (by simp) (by simp) (by simp) ?_ ?_ ?_
 ·rintro _ _ ⟨rfl,rfl⟩
  exact⟨by simp,by simp,.inl rfl,λi hi=>by rcases(show i=0∨i=1∨i=2∨i=3∨i=4∨i=5 by omega) with rfl|rfl|rfl|rfl|rfl|rfl<;>(simp[chH,q07,q02,q00];try omega)⟩
 ·intro i hi;rcases(show i=0∨i=1∨i=2∨i=3∨i=4∨i=5 by omega) with rfl|rfl|rfl|rfl|rfl|rfl<;>simp only[go_sem]
 rintro _ _ ⟨rfl,rfl⟩
 simp only[go_sem]
 with_reducible repeat' (first|refine br ?_ ?_<;>intro h e<;>(try simp only[e,go_sem])<;>clear e|rw[q01 (by omega)]|refine sd ?_<;>try simp only[go_sem]|fail)
 refine q0l (c31 w.nets hn) [3] false (by simp only[go_sem];first|done|simp) (by simp only[List.mem_cons,List.not_mem_nil,or_false];rintro c (rfl)<;>simp only[go_sem]) rfl (.inr rfl) ?_
 simp only[go_sem]
 with_reducible repeat' (first|refine br ?_ ?_<;>intro h e<;>(try simp only[e,go_sem])<;>clear e|rw[q01 (by omega)]|refine sd ?_<;>try simp only[go_sem]|fail)
 exact q0v (.bool true) [.arr 69 10 (w.convs.map Conv.row),.arr 145 3 (w.door.map.map Pair.row),.var 169 [.int .i64 f.ins.a,.int .i64 f.ins.p,.int .i64 f.out.a,.int .i64 f.out.p,.str f.up.inn,.own 4 f.up.parts.length,.str f.down.inn,.own 5 f.down.parts.length,.int .i64 g.ins.a,.int .i64 g.ins.p,.int .i64 g.out.a,.int .i64 g.out.p,.str g.up.inn,.own 6 g.up.parts.length,.str g.down.inn,.own 7 g.down.parts.length],.arr 65 7 (w.nets.map Pk.row),.arr 204 2 (f.up.parts.map Part.row),.arr 204 2 (f.down.parts.map Part.row),.arr 204 2 (g.up.parts.map Part.row),.arr 204 2 (g.down.parts.map Part.row)] [] (by simp only[go_sem]) ⟨rfl,rfl⟩ (by simp only[go_sem]) (by simp[q0r,q0b]) (by simp only[go_sem])
def qma (f g:Flw) (k:Int):Nat→St
 | 0=>(⟨q0e [(0,.view 0 2 2),(1,.int .i64 (k)),(5,.int .i64 0)],q09 [(0,.var 169 [.int .i64 f.ins.a,.int .i64 f.ins.p,.int .i64 f.out.a,.int .i64 f.out.p,.str f.up.inn,.own 1 f.up.parts.length,.str f.down.inn,.own 2 f.down.parts.length,.int .i64 g.ins.a,.int .i64 g.ins.p,.int .i64 g.out.a,.int .i64 g.out.p,.str g.up.inn,.own 3 g.up.parts.length,.str g.down.inn,.own 4 g.down.parts.length]),(1,.arr 204 2 (f.up.parts.map Part.row)),(2,.arr 204 2 (f.down.parts.map Part.row)),(3,.arr 204 2 (g.up.parts.map Part.row)),(4,.arr 204 2 (g.down.parts.map Part.row))]⟩:St)
 | 1=>(⟨q0e [(0,.view 0 2 2),(1,.int .i64 (flE k f)),(5,.int .i64 1)],q09 [(0,.var 169 [.int .i64 (q00 k f).ins.a,.int .i64 (q00 k f).ins.p,.int .i64 (q00 k f).out.a,.int .i64 (q00 k f).out.p,.str (q00 k f).up.inn,.own 1 (q00 k f).up.parts.length,.str (q00 k f).down.inn,.own 2 (q00 k f).down.parts.length,.int .i64 g.ins.a,.int .i64 g.ins.p,.int .i64 g.out.a,.int .i64 g.out.p,.str g.up.inn,.own 3 g.up.parts.length,.str g.down.inn,.own 4 g.down.parts.length]),(1,.arr 204 2 ((q00 k f).up.parts.map Part.row)),(2,.arr 204 2 ((q00 k f).down.parts.map Part.row)),(3,.arr 204 2 (g.up.parts.map Part.row)),(4,.arr 204 2 (g.down.parts.map Part.row))]⟩:St)
 | _=>(⟨q0e [(0,.view 0 2 2),(1,.int .i64 (flE (flE k f) g)),(5,.int .i64 2)],q09 [(0,.var 169 [.int .i64 (q00 k f).ins.a,.int .i64 (q00 k f).ins.p,.int .i64 (q00 k f).out.a,.int .i64 (q00 k f).out.p,.str (q00 k f).up.inn,.own 1 (q00 k f).up.parts.length,.str (q00 k f).down.inn,.own 2 (q00 k f).down.parts.length,.int .i64 (q00 (flE k f) g).ins.a,.int .i64 (q00 (flE k f) g).ins.p,.int .i64 (q00 (flE k f) g).out.a,.int .i64 (q00 (flE k f) g).out.p,.str (q00 (flE k f) g).up.inn,.own 3 (q00 (flE k f) g).up.parts.length,.str (q00 (flE k f) g).down.inn,.own 4 (q00 (flE k f) g).down.parts.length]),(1,.arr 204 2 ((q00 k f).up.parts.map Part.row)),(2,.arr 204 2 ((q00 k f).down.parts.map Part.row)),(3,.arr 204 2 ((q00 (flE k f) g).up.parts.map Part.row)),(4,.arr 204 2 ((q00 (flE k f) g).down.parts.map Part.row))]⟩:St)
set_option maxHeartbeats 4000000 in
theorem n285 (f g:Flw) (k:Int) (hk:0≤k∧k≤100000000000) (bf:ptB f) (bg:ptB g):FnP Tryz.prog G 85 5 [.var 169 [.int .i64 f.ins.a,.int .i64 f.ins.p,.int .i64 f.out.a,.int .i64 f.out.p,.str f.up.inn,.own 1 f.up.parts.length,.str f.down.inn,.own 2 f.down.parts.length,.int .i64 g.ins.a,.int .i64 g.ins.p,.int .i64 g.out.a,.int .i64 g.out.p,.str g.up.inn,.own 3 g.up.parts.length,.str g.down.inn,.own 4 g.down.parts.length],.arr 204 2 (f.up.parts.map Part.row),.arr 204 2 (f.down.parts.map Part.row),.arr 204 2 (g.up.parts.map Part.row),.arr 204 2 (g.down.parts.map Part.row)] [.view 0 2 2,.int .i64 k] (λr o=>r=.int .i64 (flE (flE k f) g)∧o=[.var 169 [.int .i64 (q00 k f).ins.a,.int .i64 (q00 k f).ins.p,.int .i64 (q00 k f).out.a,.int .i64 (q00 k f).out.p,.str (q00 k f).up.inn,.own 1 (q00 k f).up.parts.length,.str (q00 k f).down.inn,.own 2 (q00 k f).down.parts.length,.int .i64 (q00 (flE k f) g).ins.a,.int .i64 (q00 (flE k f) g).ins.p,.int .i64 (q00 (flE k f) g).out.a,.int .i64 (q00 (flE k f) g).out.p,.str (q00 (flE k f) g).up.inn,.own 3 (q00 (flE k f) g).up.parts.length,.str (q00 (flE k f) g).down.inn,.own 4 (q00 (flE k f) g).down.parts.length],.arr 204 2 ((q00 k f).up.parts.map Part.row),.arr 204 2 ((q00 k f).down.parts.map Part.row),.arr 204 2 ((q00 (flE k f) g).up.parts.map Part.row),.arr 204 2 ((q00 (flE k f) g).down.parts.map Part.row)]):=by
 refine mP dg85 Tryz.ntmps85 ⟨_,_,rfl,rfl⟩ ?_
 simp only[qpt,go_sem]
 with_reducible repeat' (first|refine br ?_ ?_<;>intro h e<;>(try simp only[e,go_sem])<;>clear e|rw[q01 (by omega)]|refine sd ?_<;>try simp only[go_sem]|fail)
 refine q0h (qma f g k) (λi=>2 - i) (λi=>i≤2) 0 (by simp only[qma];exact leN [] (by simp only[go_sem];first|done|omega|rfl) (by simp only[go_sem];first|done|omega|rfl) (by simp[q0b]) (by simp only[go_sem])) (Nat.zero_le _) ?_
 intro i hi
 by_cases i0:i=0
 ·subst i0
  simp only[qma,go_sem]
  obtain⟨kk,hkk⟩:∃kk,k=kk:=⟨_,rfl⟩
  have hkb:0≤kk∧kk≤200000000000:=by(try simp only[flE,ptB] at *);omega
  obtain⟨h1,h2⟩:=bf
  obtain⟨q,hq⟩:∃q,kk+5+2*(f.up.parts.length:Int)=q:=⟨_,rfl⟩
  have hq1:kk+6+2*(f.up.parts.length:Int)=q+1:=by omega
  have hq2:q+1+2*(f.down.parts.length:Int)=flE kk f:=by simp only[flE];omega
  have w1:IntKind.i64.wrap (kk+1)=kk+1:=q01 (by omega)
  have w2:IntKind.i64.wrap (kk+2)=kk+2:=q01 (by omega)
  have w3:IntKind.i64.wrap (kk+3)=kk+3:=q01 (by omega)
  have w4:IntKind.i64.wrap (kk+4)=kk+4:=q01 (by omega)
  have w5:IntKind.i64.wrap (kk+5)=kk+5:=q01 (by omega)
  have wq:IntKind.i64.wrap (q+1)=q+1:=q01 (by omega)
  simp only[hkk,k11,k21,k31,k41,w1,w2,w3,w4,w5,go_sem]
  with_reducible repeat' (first|rw[q01 (by omega)];try simp only[go_sem,k11,k21,k31,k41,w1,w2,w3,w4,w5]|refine br ?_ ?_<;>intro h e<;>(try simp only[e,go_sem,k11,k21,k31,k41,w1,w2,w3,w4,w5])<;>clear e|refine sd ?_<;>try simp only[go_sem,k11,k21,k31,k41,w1,w2,w3,w4,w5]|(first|refine cr (c34 _ (by omega)) ?_)<;>try simp only[go_sem,k11,k21,k31,k41,w1,w2,w3,w4,w5]|fail)
  refine q0f (qor f.up.parts (kk+5) h1 (by omega)) [1] [] true 60 1 (by simp only[go_sem,q02];first|done|simp) (by simp only[go_sem,q02];first|done|simp) (by simp) (by simp) (by simp) ?_ ?_ ?_
  ·rintro _ _ ⟨rfl,rfl⟩
   exact⟨by simp,by simp,.inl rfl,λi hi=>by obtain rfl:i=0:=(by omega);(simp[chH,q07,q02,q00];try omega)⟩
  ·intro i hi;obtain rfl:i=0:=(by omega);simp only[go_sem]
  rintro _ _ ⟨rfl,rfl⟩
  simp only[go_sem,q02]
  try simp only[hq]
  with_reducible repeat' (first|rw[q01 (by omega)];try simp only[go_sem,hq,wq]|refine br ?_ ?_<;>intro h e<;>(try simp only[e,go_sem,hq,wq])<;>clear e|refine sd ?_<;>try simp only[go_sem,hq,wq]|(first|refine cr (c34 _ (by omega)) ?_)<;>try simp only[go_sem,hq,wq]|fail)
  refine q0f (qor f.down.parts (q+1) h2 (by omega)) [2] [] true 77 1 (by simp only[go_sem,q02];first|done|simp) (by simp only[go_sem,q02];first|done|simp) (by simp) (by simp) (by simp) ?_ ?_ ?_
  ·rintro _ _ ⟨rfl,rfl⟩
   exact⟨by simp,by simp,.inl rfl,λi hi=>by obtain rfl:i=0:=(by omega);(simp[chH,q07,q02,q00];try omega)⟩
  ·intro i hi;obtain rfl:i=0:=(by omega);simp only[go_sem]
  rintro _ _ ⟨rfl,rfl⟩
  simp only[go_sem,q02]
  with_reducible repeat' (first|rw[q01 (by omega)];try simp only[go_sem,hq2]|refine br ?_ ?_<;>intro h e<;>(try simp only[e,go_sem,hq2])<;>clear e|refine sd ?_<;>try simp only[go_sem,hq2]|fail)
  exact⟨1,by omega,by omega,by simp only[qma];exact leN [] (by simp only[go_sem,hkk,hq2];first|done|omega|rfl) (by simp only[go_sem,hkk,q00,q02,hq,hq1];first|done|omega|rfl) (by simp[q0b]) (by simp only[go_sem])⟩
 by_cases i1:i=1
 ·subst i1
  simp only[qma,go_sem]
  obtain⟨kk,hkk⟩:∃kk,flE k f=kk:=⟨_,rfl⟩
  have hkb:0≤kk∧kk≤200000000000:=by(try simp only[flE,ptB] at *);omega
  obtain⟨h1,h2⟩:=bg
  obtain⟨q,hq⟩:∃q,kk+5+2*(g.up.parts.length:Int)=q:=⟨_,rfl⟩
  have hq1:kk+6+2*(g.up.parts.length:Int)=q+1:=by omega
  have hq2:q+1+2*(g.down.parts.length:Int)=flE kk g:=by simp only[flE];omega
  have w1:IntKind.i64.wrap (kk+1)=kk+1:=q01 (by omega)
  have w2:IntKind.i64.wrap (kk+2)=kk+2:=q01 (by omega)
  have w3:IntKind.i64.wrap (kk+3)=kk+3:=q01 (by omega)
  have w4:IntKind.i64.wrap (kk+4)=kk+4:=q01 (by omega)
  have w5:IntKind.i64.wrap (kk+5)=kk+5:=q01 (by omega)
  have wq:IntKind.i64.wrap (q+1)=q+1:=q01 (by omega)
  simp only[hkk,k11,k21,k31,k41,w1,w2,w3,w4,w5,go_sem]
  with_reducible repeat' (first|rw[q01 (by omega)];try simp only[go_sem,k11,k21,k31,k41,w1,w2,w3,w4,w5]|refine br ?_ ?_<;>intro h e<;>(try simp only[e,go_sem,k11,k21,k31,k41,w1,w2,w3,w4,w5])<;>clear e|refine sd ?_<;>try simp only[go_sem,k11,k21,k31,k41,w1,w2,w3,w4,w5]|(first|refine cr (c34 _ (by omega)) ?_)<;>try simp only[go_sem,k11,k21,k31,k41,w1,w2,w3,w4,w5]|fail)
  refine q0f (qor g.up.parts (kk+5) h1 (by omega)) [3] [] true 60 1 (by simp only[go_sem,q02];first|done|simp) (by simp only[go_sem,q02];first|done|simp) (by simp) (by simp) (by simp) ?_ ?_ ?_
  ·rintro _ _ ⟨rfl,rfl⟩
   exact⟨by simp,by simp,.inl rfl,λi hi=>by obtain rfl:i=0:=(by omega);(simp[chH,q07,q02,q00];try omega)⟩
  ·intro i hi;obtain rfl:i=0:=(by omega);simp only[go_sem]
  rintro _ _ ⟨rfl,rfl⟩
  simp only[go_sem,q02]
  try simp only[hq]
  with_reducible repeat' (first|rw[q01 (by omega)];try simp only[go_sem,hq,wq]|refine br ?_ ?_<;>intro h e<;>(try simp only[e,go_sem,hq,wq])<;>clear e|refine sd ?_<;>try simp only[go_sem,hq,wq]|(first|refine cr (c34 _ (by omega)) ?_)<;>try simp only[go_sem,hq,wq]|fail)
  refine q0f (qor g.down.parts (q+1) h2 (by omega)) [4] [] true 77 1 (by simp only[go_sem,q02];first|done|simp) (by simp only[go_sem,q02];first|done|simp) (by simp) (by simp) (by simp) ?_ ?_ ?_
  ·rintro _ _ ⟨rfl,rfl⟩
   exact⟨by simp,by simp,.inl rfl,λi hi=>by obtain rfl:i=0:=(by omega);(simp[chH,q07,q02,q00];try omega)⟩
  ·intro i hi;obtain rfl:i=0:=(by omega);simp only[go_sem]
  rintro _ _ ⟨rfl,rfl⟩
  simp only[go_sem,q02]
  with_reducible repeat' (first|rw[q01 (by omega)];try simp only[go_sem,hq2]|refine br ?_ ?_<;>intro h e<;>(try simp only[e,go_sem,hq2])<;>clear e|refine sd ?_<;>try simp only[go_sem,hq2]|fail)
  exact⟨2,by omega,by omega,by simp only[qma];exact leN [] (by simp only[go_sem,hkk,hq2];first|done|omega|rfl) (by simp only[go_sem,hkk,q00,q02,hq,hq1];first|done|omega|rfl) (by simp[q0b]) (by simp only[go_sem])⟩
 obtain rfl:i=2:=by omega
 simp only[qma,go_sem]
 with_reducible repeat' (first|refine br ?_ ?_<;>intro h e<;>(try simp only[e,go_sem])<;>clear e|rw[q01 (by omega)]|refine sd ?_<;>try simp only[go_sem]|fail)
 exact q0v (.int .i64 (flE (flE k f) g)) [.var 169 [.int .i64 (q00 k f).ins.a,.int .i64 (q00 k f).ins.p,.int .i64 (q00 k f).out.a,.int .i64 (q00 k f).out.p,.str (q00 k f).up.inn,.own 1 (q00 k f).up.parts.length,.str (q00 k f).down.inn,.own 2 (q00 k f).down.parts.length,.int .i64 (q00 (flE k f) g).ins.a,.int .i64 (q00 (flE k f) g).ins.p,.int .i64 (q00 (flE k f) g).out.a,.int .i64 (q00 (flE k f) g).out.p,.str (q00 (flE k f) g).up.inn,.own 3 (q00 (flE k f) g).up.parts.length,.str (q00 (flE k f) g).down.inn,.own 4 (q00 (flE k f) g).down.parts.length],.arr 204 2 ((q00 k f).up.parts.map Part.row),.arr 204 2 ((q00 k f).down.parts.map Part.row),.arr 204 2 ((q00 (flE k f) g).up.parts.map Part.row),.arr 204 2 ((q00 (flE k f) g).down.parts.map Part.row)] [] (by simp only[go_sem]) ⟨rfl,rfl⟩ (by simp only[go_sem]) (by simp[q0r,q0b]) (by simp only[go_sem])
def qoa (f g:Flw) (k:Int):Nat→St
 | 0=>(⟨q0e [(0,.view 0 2 2),(1,.int .i64 (k)),(5,.int .i64 0)],q09 [(0,.var 169 [.int .i64 (q00 k f).ins.a,.int .i64 (q00 k f).ins.p,.int .i64 (q00 k f).out.a,.int .i64 (q00 k f).out.p,.str (q00 k f).up.inn,.own 1 (q00 k f).up.parts.length,.str (q00 k f).down.inn,.own 2 (q00 k f).down.parts.length,.int .i64 (q00 (flE k f) g).ins.a,.int .i64 (q00 (flE k f) g).ins.p,.int .i64 (q00 (flE k f) g).out.a,.int .i64 (q00 (flE k f) g).out.p,.str (q00 (flE k f) g).up.inn,.own 3 (q00 (flE k f) g).up.parts.length,.str (q00 (flE k f) g).down.inn,.own 4 (q00 (flE k f) g).down.parts.length]),(1,.arr 204 2 ((q00 k f).up.parts.map Part.row)),(2,.arr 204 2 ((q00 k f).down.parts.map Part.row)),(3,.arr 204 2 ((q00 (flE k f) g).up.parts.map Part.row)),(4,.arr 204 2 ((q00 (flE k f) g).down.parts.map Part.row))]⟩:St)
 | 1=>(⟨q0e [(0,.view 0 2 2),(1,.int .i64 (flE k f)),(5,.int .i64 1)],q09 [(0,.var 169 [.int .i64 (q00 k f).ins.a,.int .i64 (q00 k f).ins.p,.int .i64 (q00 k f).out.a,.int .i64 (q00 k f).out.p,.str (q00 k f).up.inn,.own 1 (q00 k f).up.parts.length,.str (q00 k f).down.inn,.own 2 (q00 k f).down.parts.length,.int .i64 (q00 (flE k f) g).ins.a,.int .i64 (q00 (flE k f) g).ins.p,.int .i64 (q00 (flE k f) g).out.a,.int .i64 (q00 (flE k f) g).out.p,.str (q00 (flE k f) g).up.inn,.own 3 (q00 (flE k f) g).up.parts.length,.str (q00 (flE k f) g).down.inn,.own 4 (q00 (flE k f) g).down.parts.length]),(1,.arr 204 2 ((q00 k f).up.parts.map Part.row)),(2,.arr 204 2 ((q00 k f).down.parts.map Part.row)),(3,.arr 204 2 ((q00 (flE k f) g).up.parts.map Part.row)),(4,.arr 204 2 ((q00 (flE k f) g).down.parts.map Part.row))]⟩:St)
 | _=>(⟨q0e [(0,.view 0 2 2),(1,.int .i64 (flE (flE k f) g)),(5,.int .i64 2)],q09 [(0,.var 169 [.int .i64 (q00 k f).ins.a,.int .i64 (q00 k f).ins.p,.int .i64 (q00 k f).out.a,.int .i64 (q00 k f).out.p,.str (q00 k f).up.inn,.own 1 (q00 k f).up.parts.length,.str (q00 k f).down.inn,.own 2 (q00 k f).down.parts.length,.int .i64 (q00 (flE k f) g).ins.a,.int .i64 (q00 (flE k f) g).ins.p,.int .i64 (q00 (flE k f) g).out.a,.int .i64 (q00 (flE k f) g).out.p,.str (q00 (flE k f) g).up.inn,.own 3 (q00 (flE k f) g).up.parts.length,.str (q00 (flE k f) g).down.inn,.own 4 (q00 (flE k f) g).down.parts.length]),(1,.arr 204 2 ((q00 k f).up.parts.map Part.row)),(2,.arr 204 2 ((q00 k f).down.parts.map Part.row)),(3,.arr 204 2 ((q00 (flE k f) g).up.parts.map Part.row)),(4,.arr 204 2 ((q00 (flE k f) g).down.parts.map Part.row))]⟩:St)
set_option maxHeartbeats 4000000 in
theorem n287 (f g:Flw) (k:Int) (hk:0≤k∧k≤100000000000) (bf:ptB f) (bg:ptB g):FnP Tryz.prog G 87 5 [.var 169 [.int .i64 (q00 k f).ins.a,.int .i64 (q00 k f).ins.p,.int .i64 (q00 k f).out.a,.int .i64 (q00 k f).out.p,.str (q00 k f).up.inn,.own 1 (q00 k f).up.parts.length,.str (q00 k f).down.inn,.own 2 (q00 k f).down.parts.length,.int .i64 (q00 (flE k f) g).ins.a,.int .i64 (q00 (flE k f) g).ins.p,.int .i64 (q00 (flE k f) g).out.a,.int .i64 (q00 (flE k f) g).out.p,.str (q00 (flE k f) g).up.inn,.own 3 (q00 (flE k f) g).up.parts.length,.str (q00 (flE k f) g).down.inn,.own 4 (q00 (flE k f) g).down.parts.length],.arr 204 2 ((q00 k f).up.parts.map Part.row),.arr 204 2 ((q00 k f).down.parts.map Part.row),.arr 204 2 ((q00 (flE k f) g).up.parts.map Part.row),.arr 204 2 ((q00 (flE k f) g).down.parts.map Part.row)] [.view 0 2 2,.int .i64 k] (λr o=>r=.int .i64 (flE (flE k f) g)∧o=[.var 169 [.int .i64 (q00 k f).ins.a,.int .i64 (q00 k f).ins.p,.int .i64 (q00 k f).out.a,.int .i64 (q00 k f).out.p,.str (q00 k f).up.inn,.own 1 (q00 k f).up.parts.length,.str (q00 k f).down.inn,.own 2 (q00 k f).down.parts.length,.int .i64 (q00 (flE k f) g).ins.a,.int .i64 (q00 (flE k f) g).ins.p,.int .i64 (q00 (flE k f) g).out.a,.int .i64 (q00 (flE k f) g).out.p,.str (q00 (flE k f) g).up.inn,.own 3 (q00 (flE k f) g).up.parts.length,.str (q00 (flE k f) g).down.inn,.own 4 (q00 (flE k f) g).down.parts.length],.arr 204 2 ((q00 k f).up.parts.map Part.row),.arr 204 2 ((q00 k f).down.parts.map Part.row),.arr 204 2 ((q00 (flE k f) g).up.parts.map Part.row),.arr 204 2 ((q00 (flE k f) g).down.parts.map Part.row)]):=by
 refine mP dg87 Tryz.ntmps87 ⟨_,_,rfl,rfl⟩ ?_
 simp only[qpv,go_sem]
 with_reducible repeat' (first|refine br ?_ ?_<;>intro h e<;>(try simp only[e,go_sem])<;>clear e|rw[q01 (by omega)]|refine sd ?_<;>try simp only[go_sem]|fail)
 refine q0h (qoa f g k) (λi=>2 - i) (λi=>i≤2) 0 (by simp only[qoa];exact leN [] (by simp only[go_sem];first|done|omega|rfl) (by simp only[go_sem];first|done|omega|rfl) (by simp[q0b]) (by simp only[go_sem])) (Nat.zero_le _) ?_
 intro i hi
 by_cases i0:i=0
 ·subst i0
  simp only[qoa,go_sem]
  obtain⟨kk,hkk⟩:∃kk,k=kk:=⟨_,rfl⟩
  have hkb:0≤kk∧kk≤200000000000:=by(try simp only[flE,ptB] at *);omega
  obtain⟨h1,h2⟩:=bf
  obtain⟨q,hq⟩:∃q,kk+5+2*(f.up.parts.length:Int)=q:=⟨_,rfl⟩
  have hq1:kk+6+2*(f.up.parts.length:Int)=q+1:=by omega
  have hq2:q+1+2*(f.down.parts.length:Int)=flE kk f:=by simp only[flE];omega
  have hn1:¬q<0:=by omega
  have hn2:¬flE kk f<0:=by omega
  have w1:IntKind.i64.wrap (kk+1)=kk+1:=q01 (by omega)
  have w2:IntKind.i64.wrap (kk+2)=kk+2:=q01 (by omega)
  have w3:IntKind.i64.wrap (kk+3)=kk+3:=q01 (by omega)
  have w4:IntKind.i64.wrap (kk+4)=kk+4:=q01 (by omega)
  have w5:IntKind.i64.wrap (kk+5)=kk+5:=q01 (by omega)
  have wq:IntKind.i64.wrap (q+1)=q+1:=q01 (by omega)
  simp only[hkk,k11,k21,k31,k41,w1,w2,w3,w4,w5,q00,hq,hq1,go_sem]
  with_reducible repeat' (first|rw[q01 (by omega)];try simp only[go_sem,k11,k21,k31,k41,w1,w2,w3,w4,w5,q00,hq,hq1,not_true_eq_false,decide_false]|refine br ?_ ?_<;>intro h e<;>(try simp only[e,go_sem,k11,k21,k31,k41,w1,w2,w3,w4,w5,q00,hq,hq1,not_true_eq_false,decide_false])<;>clear e|refine sd ?_<;>try simp only[go_sem,k11,k21,k31,k41,w1,w2,w3,w4,w5,q00,hq,hq1,not_true_eq_false,decide_false]|(first|refine cr (c34 _ (by omega)) ?_)<;>try simp only[go_sem,k11,k21,k31,k41,w1,w2,w3,w4,w5,q00,hq,hq1,not_true_eq_false,decide_false]|fail)
  refine q0l (qox f.up.parts.length (kk+5) h1 (by omega)) [1] false (by simp only[go_sem];first|done|simp) (by simp only[List.mem_cons,List.not_mem_nil,or_false];rintro c (rfl)<;>simp only[go_sem]) rfl (.inr rfl) ?_
  simp only[go_sem,hq,hn1]
  try simp only[hq]
  with_reducible repeat' (first|rw[q01 (by omega)];try simp only[go_sem,q00,hq,hq1,hn1,wq,not_true_eq_false,decide_false]|refine br ?_ ?_<;>intro h e<;>(try simp only[e,go_sem,q00,hq,hq1,hn1,wq,not_true_eq_false,decide_false])<;>clear e|refine sd ?_<;>try simp only[go_sem,q00,hq,hq1,hn1,wq,not_true_eq_false,decide_false]|(first|refine cr (c34 _ (by omega)) ?_)<;>try simp only[go_sem,q00,hq,hq1,hn1,wq,not_true_eq_false,decide_false]|fail)
  refine q0l (qox f.down.parts.length (q+1) h2 (by omega)) [2] false (by simp only[go_sem];first|done|simp) (by simp only[List.mem_cons,List.not_mem_nil,or_false];rintro c (rfl)<;>simp only[go_sem]) rfl (.inr rfl) ?_
  simp only[go_sem,hq2,hn2]
  try simp only[hq2]
  with_reducible repeat' (first|rw[q01 (by omega)];try simp only[go_sem,hq2,hn2]|refine br ?_ ?_<;>intro h e<;>(try simp only[e,go_sem,hq2,hn2])<;>clear e|refine sd ?_<;>try simp only[go_sem,hq2,hn2]|fail)
  exact⟨1,by omega,by omega,by simp only[qoa];exact leN [] (by simp only[go_sem,hkk,hq2];first|done|omega|rfl) (by simp only[go_sem,hkk,q00,q02,hq,hq1];first|done|omega|rfl) (by simp[q0b]) (by simp only[go_sem])⟩
 by_cases i1:i=1
 ·subst i1
  simp only[qoa,go_sem]
  obtain⟨kk,hkk⟩:∃kk,flE k f=kk:=⟨_,rfl⟩
  have hkb:0≤kk∧kk≤200000000000:=by(try simp only[flE,ptB] at *);omega
  obtain⟨h1,h2⟩:=bg
  obtain⟨q,hq⟩:∃q,kk+5+2*(g.up.parts.length:Int)=q:=⟨_,rfl⟩
  have hq1:kk+6+2*(g.up.parts.length:Int)=q+1:=by omega
  have hq2:q+1+2*(g.down.parts.length:Int)=flE kk g:=by simp only[flE];omega
  have hn1:¬q<0:=by omega
  have hn2:¬flE kk g<0:=by omega
  have w1:IntKind.i64.wrap (kk+1)=kk+1:=q01 (by omega)
  have w2:IntKind.i64.wrap (kk+2)=kk+2:=q01 (by omega)
  have w3:IntKind.i64.wrap (kk+3)=kk+3:=q01 (by omega)
  have w4:IntKind.i64.wrap (kk+4)=kk+4:=q01 (by omega)
  have w5:IntKind.i64.wrap (kk+5)=kk+5:=q01 (by omega)
  have wq:IntKind.i64.wrap (q+1)=q+1:=q01 (by omega)
  simp only[hkk,k11,k21,k31,k41,w1,w2,w3,w4,w5,q00,hq,hq1,go_sem]
  with_reducible repeat' (first|rw[q01 (by omega)];try simp only[go_sem,k11,k21,k31,k41,w1,w2,w3,w4,w5,q00,hq,hq1,not_true_eq_false,decide_false]|refine br ?_ ?_<;>intro h e<;>(try simp only[e,go_sem,k11,k21,k31,k41,w1,w2,w3,w4,w5,q00,hq,hq1,not_true_eq_false,decide_false])<;>clear e|refine sd ?_<;>try simp only[go_sem,k11,k21,k31,k41,w1,w2,w3,w4,w5,q00,hq,hq1,not_true_eq_false,decide_false]|(first|refine cr (c34 _ (by omega)) ?_)<;>try simp only[go_sem,k11,k21,k31,k41,w1,w2,w3,w4,w5,q00,hq,hq1,not_true_eq_false,decide_false]|fail)
  refine q0l (qox g.up.parts.length (kk+5) h1 (by omega)) [3] false (by simp only[go_sem];first|done|simp) (by simp only[List.mem_cons,List.not_mem_nil,or_false];rintro c (rfl)<;>simp only[go_sem]) rfl (.inr rfl) ?_
  simp only[go_sem,hq,hn1]
  try simp only[hq]
  with_reducible repeat' (first|rw[q01 (by omega)];try simp only[go_sem,q00,hq,hq1,hn1,wq,not_true_eq_false,decide_false]|refine br ?_ ?_<;>intro h e<;>(try simp only[e,go_sem,q00,hq,hq1,hn1,wq,not_true_eq_false,decide_false])<;>clear e|refine sd ?_<;>try simp only[go_sem,q00,hq,hq1,hn1,wq,not_true_eq_false,decide_false]|(first|refine cr (c34 _ (by omega)) ?_)<;>try simp only[go_sem,q00,hq,hq1,hn1,wq,not_true_eq_false,decide_false]|fail)
  refine q0l (qox g.down.parts.length (q+1) h2 (by omega)) [4] false (by simp only[go_sem];first|done|simp) (by simp only[List.mem_cons,List.not_mem_nil,or_false];rintro c (rfl)<;>simp only[go_sem]) rfl (.inr rfl) ?_
  simp only[go_sem,hq2,hn2]
  try simp only[hq2]
  with_reducible repeat' (first|rw[q01 (by omega)];try simp only[go_sem,hq2,hn2]|refine br ?_ ?_<;>intro h e<;>(try simp only[e,go_sem,hq2,hn2])<;>clear e|refine sd ?_<;>try simp only[go_sem,hq2,hn2]|fail)
  exact⟨2,by omega,by omega,by simp only[qoa];exact leN [] (by simp only[go_sem,hkk,hq2];first|done|omega|rfl) (by simp only[go_sem,hkk,q00,q02,hq,hq1];first|done|omega|rfl) (by simp[q0b]) (by simp only[go_sem])⟩
 obtain rfl:i=2:=by omega
 simp only[qoa,go_sem]
 with_reducible repeat' (first|refine br ?_ ?_<;>intro h e<;>(try simp only[e,go_sem])<;>clear e|rw[q01 (by omega)]|refine sd ?_<;>try simp only[go_sem]|fail)
 exact q0v (.int .i64 (flE (flE k f) g)) [.var 169 [.int .i64 (q00 k f).ins.a,.int .i64 (q00 k f).ins.p,.int .i64 (q00 k f).out.a,.int .i64 (q00 k f).out.p,.str (q00 k f).up.inn,.own 1 (q00 k f).up.parts.length,.str (q00 k f).down.inn,.own 2 (q00 k f).down.parts.length,.int .i64 (q00 (flE k f) g).ins.a,.int .i64 (q00 (flE k f) g).ins.p,.int .i64 (q00 (flE k f) g).out.a,.int .i64 (q00 (flE k f) g).out.p,.str (q00 (flE k f) g).up.inn,.own 3 (q00 (flE k f) g).up.parts.length,.str (q00 (flE k f) g).down.inn,.own 4 (q00 (flE k f) g).down.parts.length],.arr 204 2 ((q00 k f).up.parts.map Part.row),.arr 204 2 ((q00 k f).down.parts.map Part.row),.arr 204 2 ((q00 (flE k f) g).up.parts.map Part.row),.arr 204 2 ((q00 (flE k f) g).down.parts.map Part.row)] [] (by simp only[go_sem]) ⟨rfl,rfl⟩ (by simp only[go_sem]) (by simp[q0r,q0b]) (by simp only[go_sem])
set_option maxHeartbeats 4000000 in
theorem n235 (l:List Pair) (m:Nat) (f g:Flw) (k:Int) (hm:l.length=m) (hm2:m≤1048576) (hk:0≤k∧k≤20000000000) (bf:ptB f) (bg:ptB g):FnP Tryz.prog G 35 6 [.arr 145 3 (l.map Pair.row),.var 169 [.int .i64 f.ins.a,.int .i64 f.ins.p,.int .i64 f.out.a,.int .i64 f.out.p,.str f.up.inn,.own 2 f.up.parts.length,.str f.down.inn,.own 3 f.down.parts.length,.int .i64 g.ins.a,.int .i64 g.ins.p,.int .i64 g.out.a,.int .i64 g.out.p,.str g.up.inn,.own 4 g.up.parts.length,.str g.down.inn,.own 5 g.down.parts.length],.arr 204 2 (f.up.parts.map Part.row),.arr 204 2 (f.down.parts.map Part.row),.arr 204 2 (g.up.parts.map Part.row),.arr 204 2 (g.down.parts.map Part.row)] [.agg [.own 0 m,.view 1 2 2],.int .i64 k] (λr o=>r=.int .i64 (flE (flE (k+3*m) f) g)∧o=[.arr 145 3 ((mkS q2o 3 k m).map Pair.row),.var 169 [.int .i64 (q00 (k+3*m) f).ins.a,.int .i64 (q00 (k+3*m) f).ins.p,.int .i64 (q00 (k+3*m) f).out.a,.int .i64 (q00 (k+3*m) f).out.p,.str (q00 (k+3*m) f).up.inn,.own 2 (q00 (k+3*m) f).up.parts.length,.str (q00 (k+3*m) f).down.inn,.own 3 (q00 (k+3*m) f).down.parts.length,.int .i64 (q00 (flE (k+3*m) f) g).ins.a,.int .i64 (q00 (flE (k+3*m) f) g).ins.p,.int .i64 (q00 (flE (k+3*m) f) g).out.a,.int .i64 (q00 (flE (k+3*m) f) g).out.p,.str (q00 (flE (k+3*m) f) g).up.inn,.own 4 (q00 (flE (k+3*m) f) g).up.parts.length,.str (q00 (flE (k+3*m) f) g).down.inn,.own 5 (q00 (flE (k+3*m) f) g).down.parts.length],.arr 204 2 ((q00 (k+3*m) f).up.parts.map Part.row),.arr 204 2 ((q00 (k+3*m) f).down.parts.map Part.row),.arr 204 2 ((q00 (flE (k+3*m) f) g).up.parts.map Part.row),.arr 204 2 ((q00 (flE (k+3*m) f) g).down.parts.map Part.row)]):=by
 subst hm
 refine mP dg35 Tryz.ntmps35 ⟨_,_,rfl,rfl⟩ ?_
 simp only[qvv,go_sem]
 with_reducible repeat' (first|refine br ?_ ?_<;>intro h e<;>(try simp only[e,go_sem])<;>clear e|rw[q01 (by omega)]|refine sd ?_<;>try simp only[go_sem]|fail)
 refine q0f (c84 l k hm2 (by omega)) [0] [] true 8 1 (by simp only[go_sem];first|done|simp) (by simp only[go_sem];first|done|simp) (by simp) (by simp) (by simp) ?_ ?_ ?_
 ·rintro _ _ ⟨rfl,rfl⟩
  exact⟨by simp,by simp,.inl rfl,λi hi=>by obtain rfl:i=0:=(by omega);(simp[chH,q07,q02,q00];try omega)⟩
 ·intro i hi;obtain rfl:i=0:=(by omega);simp only[go_sem]
 rintro _ _ ⟨rfl,rfl⟩
 simp only[go_sem]
 with_reducible repeat' (first|refine br ?_ ?_<;>intro h e<;>(try simp only[e,go_sem])<;>clear e|rw[q01 (by omega)]|refine sd ?_<;>try simp only[go_sem]|fail)
 refine q0f (n285 f g (k+3*l.length) (by omega) bf bg) [1,2,3,4,5] [] true 12 5 (by simp only[go_sem];first|done|simp) (by simp only[go_sem];first|done|simp) (by simp) (by simp) (by simp) ?_ ?_ ?_
 ·rintro _ _ ⟨rfl,rfl⟩
  exact⟨by simp,by simp,.inl rfl,λi hi=>by rcases(show i=0∨i=1∨i=2∨i=3∨i=4 by omega) with rfl|rfl|rfl|rfl|rfl<;>(simp[chH,q07,q02,q00];try omega)⟩
 ·intro i hi;rcases(show i=0∨i=1∨i=2∨i=3∨i=4 by omega) with rfl|rfl|rfl|rfl|rfl<;>simp only[go_sem]
 rintro _ _ ⟨rfl,rfl⟩
 simp only[go_sem]
 with_reducible repeat' (first|refine br ?_ ?_<;>intro h e<;>(try simp only[e,go_sem])<;>clear e|rw[q01 (by omega)]|refine sd ?_<;>try simp only[go_sem]|fail)
 exact q0v (.int .i64 (flE (flE (k+3*l.length) f) g)) [.arr 145 3 ((mkS q2o 3 k l.length).map Pair.row),.var 169 [.int .i64 (q00 (k+3*l.length) f).ins.a,.int .i64 (q00 (k+3*l.length) f).ins.p,.int .i64 (q00 (k+3*l.length) f).out.a,.int .i64 (q00 (k+3*l.length) f).out.p,.str (q00 (k+3*l.length) f).up.inn,.own 2 (q00 (k+3*l.length) f).up.parts.length,.str (q00 (k+3*l.length) f).down.inn,.own 3 (q00 (k+3*l.length) f).down.parts.length,.int .i64 (q00 (flE (k+3*l.length) f) g).ins.a,.int .i64 (q00 (flE (k+3*l.length) f) g).ins.p,.int .i64 (q00 (flE (k+3*l.length) f) g).out.a,.int .i64 (q00 (flE (k+3*l.length) f) g).out.p,.str (q00 (flE (k+3*l.length) f) g).up.inn,.own 4 (q00 (flE (k+3*l.length) f) g).up.parts.length,.str (q00 (flE (k+3*l.length) f) g).down.inn,.own 5 (q00 (flE (k+3*l.length) f) g).down.parts.length],.arr 204 2 ((q00 (k+3*l.length) f).up.parts.map Part.row),.arr 204 2 ((q00 (k+3*l.length) f).down.parts.map Part.row),.arr 204 2 ((q00 (flE (k+3*l.length) f) g).up.parts.map Part.row),.arr 204 2 ((q00 (flE (k+3*l.length) f) g).down.parts.map Part.row)] [] (by simp only[go_sem]) ⟨rfl,rfl⟩ (by simp only[go_sem]) (by simp[q0r,q0b]) (by simp only[go_sem])
set_option maxHeartbeats 4000000 in
theorem n238 (m:Nat) (f g:Flw) (k:Int) (hm2:m≤1048576) (hk:0≤k∧k≤20000000000) (bf:ptB f) (bg:ptB g):FnP Tryz.prog G 38 6 [.arr 145 3 ((mkS q2o 3 k m).map Pair.row),.var 169 [.int .i64 (q00 (k+3*m) f).ins.a,.int .i64 (q00 (k+3*m) f).ins.p,.int .i64 (q00 (k+3*m) f).out.a,.int .i64 (q00 (k+3*m) f).out.p,.str (q00 (k+3*m) f).up.inn,.own 2 (q00 (k+3*m) f).up.parts.length,.str (q00 (k+3*m) f).down.inn,.own 3 (q00 (k+3*m) f).down.parts.length,.int .i64 (q00 (flE (k+3*m) f) g).ins.a,.int .i64 (q00 (flE (k+3*m) f) g).ins.p,.int .i64 (q00 (flE (k+3*m) f) g).out.a,.int .i64 (q00 (flE (k+3*m) f) g).out.p,.str (q00 (flE (k+3*m) f) g).up.inn,.own 4 (q00 (flE (k+3*m) f) g).up.parts.length,.str (q00 (flE (k+3*m) f) g).down.inn,.own 5 (q00 (flE (k+3*m) f) g).down.parts.length],.arr 204 2 ((q00 (k+3*m) f).up.parts.map Part.row),.arr 204 2 ((q00 (k+3*m) f).down.parts.map Part.row),.arr 204 2 ((q00 (flE (k+3*m) f) g).up.parts.map Part.row),.arr 204 2 ((q00 (flE (k+3*m) f) g).down.parts.map Part.row)] [.agg [.own 0 m,.view 1 2 2],.int .i64 k] (λr o=>r=.int .i64 (flE (flE (k+3*m) f) g)∧o=[.arr 145 3 ((mkS q2o 3 k m).map Pair.row),.var 169 [.int .i64 (q00 (k+3*m) f).ins.a,.int .i64 (q00 (k+3*m) f).ins.p,.int .i64 (q00 (k+3*m) f).out.a,.int .i64 (q00 (k+3*m) f).out.p,.str (q00 (k+3*m) f).up.inn,.own 2 (q00 (k+3*m) f).up.parts.length,.str (q00 (k+3*m) f).down.inn,.own 3 (q00 (k+3*m) f).down.parts.length,.int .i64 (q00 (flE (k+3*m) f) g).ins.a,.int .i64 (q00 (flE (k+3*m) f) g).ins.p,.int .i64 (q00 (flE (k+3*m) f) g).out.a,.int .i64 (q00 (flE (k+3*m) f) g).out.p,.str (q00 (flE (k+3*m) f) g).up.inn,.own 4 (q00 (flE (k+3*m) f) g).up.parts.length,.str (q00 (flE (k+3*m) f) g).down.inn,.own 5 (q00 (flE (k+3*m) f) g).down.parts.length],.arr 204 2 ((q00 (k+3*m) f).up.parts.map Part.row),.arr 204 2 ((q00 (k+3*m) f).down.parts.map Part.row),.arr 204 2 ((q00 (flE (k+3*m) f) g).up.parts.map Part.row),.arr 204 2 ((q00 (flE (k+3*m) f) g).down.parts.map Part.row)]):=by
 refine mP dg38 Tryz.ntmps38 ⟨_,_,rfl,rfl⟩ ?_
 have n1:¬k+3*(m:Int)<0:=by omega
 have n2:¬flE (flE (k+3*m) f) g<0:=by(try simp only[flE]);omega
 simp only[qta,go_sem]
 with_reducible repeat' (first|refine br ?_ ?_<;>intro h e<;>(try simp only[e,go_sem])<;>clear e|rw[q01 (by omega)]|refine sd ?_<;>try simp only[go_sem]|fail)
 refine q0l (c86 m k hm2 (by omega)) [0] false (by simp only[go_sem];first|done|simp[q02]) (by simp only[List.mem_cons,List.not_mem_nil,or_false];rintro c (rfl)<;>simp only[go_sem]) rfl (.inr rfl) ?_
 simp only[go_sem,n1]
 with_reducible repeat' (first|refine br ?_ ?_<;>intro h e<;>(try simp only[e,go_sem,n1])<;>clear e|rw[q01 (by omega)]|refine sd ?_<;>try simp only[go_sem,n1]|fail)
 refine q0f (n287 f g (k+3*m) (by omega) bf bg) [1,2,3,4,5] [] true 14 5 (by simp only[go_sem,n2];first|done|simp) (by simp only[go_sem,n2];first|done|simp) (by simp) (by simp) (by simp) ?_ ?_ ?_
 ·rintro _ _ ⟨rfl,rfl⟩
  exact⟨by simp,by simp,.inl rfl,λi hi=>by rcases(show i=0∨i=1∨i=2∨i=3∨i=4 by omega) with rfl|rfl|rfl|rfl|rfl<;>(simp[chH,q07,q02,q00];try omega)⟩
 ·intro i hi;rcases(show i=0∨i=1∨i=2∨i=3∨i=4 by omega) with rfl|rfl|rfl|rfl|rfl<;>simp only[go_sem]
 rintro _ _ ⟨rfl,rfl⟩
 simp only[go_sem,n2]
 with_reducible repeat' (first|refine br ?_ ?_<;>intro h e<;>(try simp only[e,go_sem,n2])<;>clear e|rw[q01 (by omega)]|refine sd ?_<;>try simp only[go_sem,n2]|fail)
 exact q0v (.int .i64 (flE (flE (k+3*m) f) g)) [.arr 145 3 ((mkS q2o 3 k m).map Pair.row),.var 169 [.int .i64 (q00 (k+3*m) f).ins.a,.int .i64 (q00 (k+3*m) f).ins.p,.int .i64 (q00 (k+3*m) f).out.a,.int .i64 (q00 (k+3*m) f).out.p,.str (q00 (k+3*m) f).up.inn,.own 2 (q00 (k+3*m) f).up.parts.length,.str (q00 (k+3*m) f).down.inn,.own 3 (q00 (k+3*m) f).down.parts.length,.int .i64 (q00 (flE (k+3*m) f) g).ins.a,.int .i64 (q00 (flE (k+3*m) f) g).ins.p,.int .i64 (q00 (flE (k+3*m) f) g).out.a,.int .i64 (q00 (flE (k+3*m) f) g).out.p,.str (q00 (flE (k+3*m) f) g).up.inn,.own 4 (q00 (flE (k+3*m) f) g).up.parts.length,.str (q00 (flE (k+3*m) f) g).down.inn,.own 5 (q00 (flE (k+3*m) f) g).down.parts.length],.arr 204 2 ((q00 (k+3*m) f).up.parts.map Part.row),.arr 204 2 ((q00 (k+3*m) f).down.parts.map Part.row),.arr 204 2 ((q00 (flE (k+3*m) f) g).up.parts.map Part.row),.arr 204 2 ((q00 (flE (k+3*m) f) g).down.parts.map Part.row)] [] (by simp only[go_sem]) ⟨rfl,rfl⟩ (by simp only[go_sem]) (by simp[q0r,q0b]) (by simp only[go_sem])
set_option maxHeartbeats 4000000 in
theorem n216 (cs:List Conv) (l:List Pair) (ps:List Pk) (c m p:Nat) (f g:Flw) (k:Int) (hc:cs.length=c) (hm:l.length=m) (hp:ps.length=p) (hc2:c≤1048576) (hm2:m≤1048576) (hp2:p≤1048576) (hk:0≤k∧k≤1000000000) (bf:ptB f) (bg:ptB g) :
 FnP Tryz.prog G 16 8 [.arr 69 10 (cs.map Conv.row),.arr 145 3 (l.map Pair.row),.var 169 [.int .i64 f.ins.a,.int .i64 f.ins.p,.int .i64 f.out.a,.int .i64 f.out.p,.str f.up.inn,.own 4 f.up.parts.length,.str f.down.inn,.own 5 f.down.parts.length,.int .i64 g.ins.a,.int .i64 g.ins.p,.int .i64 g.out.a,.int .i64 g.out.p,.str g.up.inn,.own 6 g.up.parts.length,.str g.down.inn,.own 7 g.down.parts.length],.arr 65 7 (ps.map Pk.row),.arr 204 2 (f.up.parts.map Part.row),.arr 204 2 (f.down.parts.map Part.row),.arr 204 2 (g.up.parts.map Part.row),.arr 204 2 (g.down.parts.map Part.row)] [.agg [.own 0 c,.own 1 m,.view 2 2 2,.own 3 p],.int .i64 k] (λr o=>r=.int .i64 (flE (flE (k+10*c+3*m) f) g+7*p)∧o=[.arr 69 10 ((mkS mkC 10 k c).map Conv.row),.arr 145 3 ((mkS q2o 3 (k+10*c) m).map Pair.row),.var 169 [.int .i64 (q00 (k+10*c+3*m) f).ins.a,.int .i64 (q00 (k+10*c+3*m) f).ins.p,.int .i64 (q00 (k+10*c+3*m) f).out.a,.int .i64 (q00 (k+10*c+3*m) f).out.p,.str (q00 (k+10*c+3*m) f).up.inn,.own 4 (q00 (k+10*c+3*m) f).up.parts.length,.str (q00 (k+10*c+3*m) f).down.inn,.own 5 (q00 (k+10*c+3*m) f).down.parts.length,.int .i64 (q00 (flE (k+10*c+3*m) f) g).ins.a,.int .i64 (q00 (flE (k+10*c+3*m) f) g).ins.p,.int .i64 (q00 (flE (k+10*c+3*m) f) g).out.a,.int .i64 (q00 (flE (k+10*c+3*m) f) g).out.p,.str (q00 (flE (k+10*c+3*m) f) g).up.inn,.own 6 (q00 (flE (k+10*c+3*m) f) g).up.parts.length,.str (q00 (flE (k+10*c+3*m) f) g).down.inn,.own 7 (q00 (flE (k+10*c+3*m) f) g).down.parts.length],.arr 65 7 ((mkS q3q 7 (flE (flE (k+10*c+3*m) f) g) p).map Pk.row),.arr 204 2 ((q00 (k+10*c+3*m) f).up.parts.map Part.row),.arr 204 2 ((q00 (k+10*c+3*m) f).down.parts.map Part.row),.arr 204 2 ((q00 (flE (k+10*c+3*m) f) g).up.parts.map Part.row),.arr 204 2 ((q00 (flE (k+10*c+3*m) f) g).down.parts.map Part.row)]):=by
 refine mP dg16 Tryz.ntmps16 ⟨_,_,rfl,rfl⟩ ?_
 have hkb:0≤flE (flE (k+10*c+3*m) f) g∧flE (flE (k+10*c+3*m) f) g≤500000000000:=by(try simp only[flE,ptB] at *);omega
 simp only[qu1,go_sem]
 with_reducible repeat' (first|refine br ?_ ?_<;>intro h e<;>(try simp only[e,go_sem])<;>clear e|rw[q01 (by omega)]|refine sd ?_<;>try simp only[go_sem]|fail)
 have c1:=c14 cs k (by omega) (by omega)
 have c2:=c36 ps (flE (flE (k+10*c+3*m) f) g) (by omega) (by omega)
 rw[hc] at c1
 rw[hp] at c2
 refine q0f (c1) [0] [] true 8 1 (by simp only[go_sem];first|done|simp) (by simp only[go_sem];first|done|simp) (by simp) (by simp) (by simp) ?_ ?_ ?_
 ·rintro _ _ ⟨rfl,rfl⟩
  exact⟨by simp,by simp,.inl rfl,λi hi=>by obtain rfl:i=0:=(by omega);(simp[chH,q07,q02,q00];try omega)⟩
 ·intro i hi;obtain rfl:i=0:=(by omega);simp only[go_sem]
 rintro _ _ ⟨rfl,rfl⟩
 simp only[go_sem]
 with_reducible repeat' (first|refine br ?_ ?_<;>intro h e<;>(try simp only[e,go_sem])<;>clear e|rw[q01 (by omega)]|refine sd ?_<;>try simp only[go_sem]|fail)
 refine q0f (n235 l m f g (k+10*c) hm hm2 (by omega) bf bg) [1,2,4,5,6,7] [] true 12 6 (by simp only[go_sem];first|done|simp) (by simp only[go_sem];first|done|simp) (by simp) (by simp) (by simp) ?_ ?_ ?_
 ·rintro _ _ ⟨rfl,rfl⟩
  exact⟨by simp,by simp,.inl rfl,λi hi=>by rcases(show i=0∨i=1∨i=2∨i=3∨i=4∨i=5 by omega) with rfl|rfl|rfl|rfl|rfl|rfl<;>(simp[chH,q07,q02,q00];try omega)⟩
 ·intro i hi;rcases(show i=0∨i=1∨i=2∨i=3∨i=4∨i=5 by omega) with rfl|rfl|rfl|rfl|rfl|rfl<;>simp only[go_sem]
 rintro _ _ ⟨rfl,rfl⟩
 simp only[go_sem]
 with_reducible repeat' (first|refine br ?_ ?_<;>intro h e<;>(try simp only[e,go_sem])<;>clear e|rw[q01 (by omega)]|refine sd ?_<;>try simp only[go_sem]|fail)
 refine q0f (c2) [3] [] true 16 1 (by simp only[go_sem];first|done|simp) (by simp only[go_sem];first|done|simp) (by simp) (by simp) (by simp) ?_ ?_ ?_
 ·rintro _ _ ⟨rfl,rfl⟩
  exact⟨by simp,by simp,.inl rfl,λi hi=>by obtain rfl:i=0:=(by omega);(simp[chH,q07,q02,q00];try omega)⟩
 ·intro i hi;obtain rfl:i=0:=(by omega);simp only[go_sem]
 rintro _ _ ⟨rfl,rfl⟩
 simp only[go_sem]
 with_reducible repeat' (first|refine br ?_ ?_<;>intro h e<;>(try simp only[e,go_sem])<;>clear e|rw[q01 (by omega)]|refine sd ?_<;>try simp only[go_sem]|fail)
 exact q0v (.int .i64 (flE (flE (k+10*c+3*m) f) g+7*p)) [.arr 69 10 ((mkS mkC 10 k c).map Conv.row),.arr 145 3 ((mkS q2o 3 (k+10*c) m).map Pair.row),.var 169 [.int .i64 (q00 (k+10*c+3*m) f).ins.a,.int .i64 (q00 (k+10*c+3*m) f).ins.p,.int .i64 (q00 (k+10*c+3*m) f).out.a,.int .i64 (q00 (k+10*c+3*m) f).out.p,.str (q00 (k+10*c+3*m) f).up.inn,.own 4 (q00 (k+10*c+3*m) f).up.parts.length,.str (q00 (k+10*c+3*m) f).down.inn,.own 5 (q00 (k+10*c+3*m) f).down.parts.length,.int .i64 (q00 (flE (k+10*c+3*m) f) g).ins.a,.int .i64 (q00 (flE (k+10*c+3*m) f) g).ins.p,.int .i64 (q00 (flE (k+10*c+3*m) f) g).out.a,.int .i64 (q00 (flE (k+10*c+3*m) f) g).out.p,.str (q00 (flE (k+10*c+3*m) f) g).up.inn,.own 6 (q00 (flE (k+10*c+3*m) f) g).up.parts.length,.str (q00 (flE (k+10*c+3*m) f) g).down.inn,.own 7 (q00 (flE (k+10*c+3*m) f) g).down.parts.length],.arr 65 7 ((mkS q3q 7 (flE (flE (k+10*c+3*m) f) g) p).map Pk.row),.arr 204 2 ((q00 (k+10*c+3*m) f).up.parts.map Part.row),.arr 204 2 ((q00 (k+10*c+3*m) f).down.parts.map Part.row),.arr 204 2 ((q00 (flE (k+10*c+3*m) f) g).up.parts.map Part.row),.arr 204 2 ((q00 (flE (k+10*c+3*m) f) g).down.parts.map Part.row)] [] (by simp only[go_sem]) ⟨rfl,rfl⟩ (by simp only[go_sem]) (by simp[q0r,q0b]) (by simp only[go_sem])
set_option maxHeartbeats 4000000 in
theorem n217 (c m p:Nat) (f g:Flw) (k:Int) (hc2:c≤1048576) (hm2:m≤1048576) (hp2:p≤1048576) (hk:0≤k∧k≤1000000000) (bf:ptB f) (bg:ptB g) :
 FnP Tryz.prog G 17 8 [.arr 69 10 ((mkS mkC 10 k c).map Conv.row),.arr 145 3 ((mkS q2o 3 (k+10*c) m).map Pair.row),.var 169 [.int .i64 (q00 (k+10*c+3*m) f).ins.a,.int .i64 (q00 (k+10*c+3*m) f).ins.p,.int .i64 (q00 (k+10*c+3*m) f).out.a,.int .i64 (q00 (k+10*c+3*m) f).out.p,.str (q00 (k+10*c+3*m) f).up.inn,.own 4 (q00 (k+10*c+3*m) f).up.parts.length,.str (q00 (k+10*c+3*m) f).down.inn,.own 5 (q00 (k+10*c+3*m) f).down.parts.length,.int .i64 (q00 (flE (k+10*c+3*m) f) g).ins.a,.int .i64 (q00 (flE (k+10*c+3*m) f) g).ins.p,.int .i64 (q00 (flE (k+10*c+3*m) f) g).out.a,.int .i64 (q00 (flE (k+10*c+3*m) f) g).out.p,.str (q00 (flE (k+10*c+3*m) f) g).up.inn,.own 6 (q00 (flE (k+10*c+3*m) f) g).up.parts.length,.str (q00 (flE (k+10*c+3*m) f) g).down.inn,.own 7 (q00 (flE (k+10*c+3*m) f) g).down.parts.length],.arr 65 7 ((mkS q3q 7 (flE (flE (k+10*c+3*m) f) g) p).map Pk.row),.arr 204 2 ((q00 (k+10*c+3*m) f).up.parts.map Part.row),.arr 204 2 ((q00 (k+10*c+3*m) f).down.parts.map Part.row),.arr 204 2 ((q00 (flE (k+10*c+3*m) f) g).up.parts.map Part.row),.arr 204 2 ((q00 (flE (k+10*c+3*m) f) g).down.parts.map Part.row)] [.agg [.own 0 c,.own 1 m,.view 2 2 2,.own 3 p],.int .i64 k] (λr o=>r=.int .i64 (flE (flE (k+10*c+3*m) f) g+7*p)∧o=[.arr 69 10 ((mkS mkC 10 k c).map Conv.row),.arr 145 3 ((mkS q2o 3 (k+10*c) m).map Pair.row),.var 169 [.int .i64 (q00 (k+10*c+3*m) f).ins.a,.int .i64 (q00 (k+10*c+3*m) f).ins.p,.int .i64 (q00 (k+10*c+3*m) f).out.a,.int .i64 (q00 (k+10*c+3*m) f).out.p,.str (q00 (k+10*c+3*m) f).up.inn,.own 4 (q00 (k+10*c+3*m) f).up.parts.length,.str (q00 (k+10*c+3*m) f).down.inn,.own 5 (q00 (k+10*c+3*m) f).down.parts.length,.int .i64 (q00 (flE (k+10*c+3*m) f) g).ins.a,.int .i64 (q00 (flE (k+10*c+3*m) f) g).ins.p,.int .i64 (q00 (flE (k+10*c+3*m) f) g).out.a,.int .i64 (q00 (flE (k+10*c+3*m) f) g).out.p,.str (q00 (flE (k+10*c+3*m) f) g).up.inn,.own 6 (q00 (flE (k+10*c+3*m) f) g).up.parts.length,.str (q00 (flE (k+10*c+3*m) f) g).down.inn,.own 7 (q00 (flE (k+10*c+3*m) f) g).down.parts.length],.arr 65 7 ((mkS q3q 7 (flE (flE (k+10*c+3*m) f) g) p).map Pk.row),.arr 204 2 ((q00 (k+10*c+3*m) f).up.parts.map Part.row),.arr 204 2 ((q00 (k+10*c+3*m) f).down.parts.map Part.row),.arr 204 2 ((q00 (flE (k+10*c+3*m) f) g).up.parts.map Part.row),.arr 204 2 ((q00 (flE (k+10*c+3*m) f) g).down.parts.map Part.row)]):=by
 refine mP dg17 Tryz.ntmps17 ⟨_,_,rfl,rfl⟩ ?_
 have hkb:0≤flE (flE (k+10*c+3*m) f) g∧flE (flE (k+10*c+3*m) f) g≤500000000000:=by(try simp only[flE,ptB] at *);omega
 have n1:¬k+10*(c:Int)<0:=by omega
 have n2:¬flE (flE (k+10*c+3*m) f) g<0:=by omega
 have n3:¬flE (flE (k+10*c+3*m) f) g+7*p<0:=by omega
 simp only[qx3,go_sem]
 with_reducible repeat' (first|refine br ?_ ?_<;>intro h e<;>(try simp only[e,go_sem])<;>clear e|rw[q01 (by omega)]|refine sd ?_<;>try simp only[go_sem]|fail)
 refine q0l (c37 c k hc2 (by omega)) [0] false (by simp only[go_sem];first|done|simp[q02]) (by simp only[List.mem_cons,List.not_mem_nil,or_false];rintro c (rfl)<;>simp only[go_sem]) rfl (.inr rfl) ?_
 simp only[go_sem,n1]
 with_reducible repeat' (first|refine br ?_ ?_<;>intro h e<;>(try simp only[e,go_sem,n1])<;>clear e|rw[q01 (by omega)]|refine sd ?_<;>try simp only[go_sem,n1]|fail)
 refine q0f (n238 m f g (k+10*c) hm2 (by omega) bf bg) [1,2,4,5,6,7] [] true 14 6 (by simp only[go_sem,n2];first|done|simp) (by simp only[go_sem,n2];first|done|simp) (by simp) (by simp) (by simp) ?_ ?_ ?_
 ·rintro _ _ ⟨rfl,rfl⟩
  exact⟨by simp,by simp,.inl rfl,λi hi=>by rcases(show i=0∨i=1∨i=2∨i=3∨i=4∨i=5 by omega) with rfl|rfl|rfl|rfl|rfl|rfl<;>(simp[chH,q07,q02,q00];try omega)⟩
 ·intro i hi;rcases(show i=0∨i=1∨i=2∨i=3∨i=4∨i=5 by omega) with rfl|rfl|rfl|rfl|rfl|rfl<;>simp only[go_sem]
 rintro _ _ ⟨rfl,rfl⟩
 simp only[go_sem,n2]
 with_reducible repeat' (first|refine br ?_ ?_<;>intro h e<;>(try simp only[e,go_sem,n2])<;>clear e|rw[q01 (by omega)]|refine sd ?_<;>try simp only[go_sem,n2]|fail)
 refine q0l (c39 p (flE (flE (k+10*c+3*m) f) g) hp2 (by omega)) [3] false (by simp only[go_sem];first|done|simp[q02]) (by simp only[List.mem_cons,List.not_mem_nil,or_false];rintro c (rfl)<;>simp only[go_sem]) rfl (.inr rfl) ?_
 simp only[go_sem,n3]
 with_reducible repeat' (first|refine br ?_ ?_<;>intro h e<;>(try simp only[e,go_sem,n3])<;>clear e|rw[q01 (by omega)]|refine sd ?_<;>try simp only[go_sem,n3]|fail)
 exact q0v (.int .i64 (flE (flE (k+10*c+3*m) f) g+7*p)) [.arr 69 10 ((mkS mkC 10 k c).map Conv.row),.arr 145 3 ((mkS q2o 3 (k+10*c) m).map Pair.row),.var 169 [.int .i64 (q00 (k+10*c+3*m) f).ins.a,.int .i64 (q00 (k+10*c+3*m) f).ins.p,.int .i64 (q00 (k+10*c+3*m) f).out.a,.int .i64 (q00 (k+10*c+3*m) f).out.p,.str (q00 (k+10*c+3*m) f).up.inn,.own 4 (q00 (k+10*c+3*m) f).up.parts.length,.str (q00 (k+10*c+3*m) f).down.inn,.own 5 (q00 (k+10*c+3*m) f).down.parts.length,.int .i64 (q00 (flE (k+10*c+3*m) f) g).ins.a,.int .i64 (q00 (flE (k+10*c+3*m) f) g).ins.p,.int .i64 (q00 (flE (k+10*c+3*m) f) g).out.a,.int .i64 (q00 (flE (k+10*c+3*m) f) g).out.p,.str (q00 (flE (k+10*c+3*m) f) g).up.inn,.own 6 (q00 (flE (k+10*c+3*m) f) g).up.parts.length,.str (q00 (flE (k+10*c+3*m) f) g).down.inn,.own 7 (q00 (flE (k+10*c+3*m) f) g).down.parts.length],.arr 65 7 ((mkS q3q 7 (flE (flE (k+10*c+3*m) f) g) p).map Pk.row),.arr 204 2 ((q00 (k+10*c+3*m) f).up.parts.map Part.row),.arr 204 2 ((q00 (k+10*c+3*m) f).down.parts.map Part.row),.arr 204 2 ((q00 (flE (k+10*c+3*m) f) g).up.parts.map Part.row),.arr 204 2 ((q00 (flE (k+10*c+3*m) f) g).down.parts.map Part.row)] [] (by simp only[go_sem]) ⟨rfl,rfl⟩ (by simp only[go_sem]) (by simp[q0r,q0b]) (by simp only[go_sem])
end Go.Proofs.YtpnekhiejecipaaGreatDoor.W
namespace Go.Proofs.YtpnekhiejecipaaGreatDoor.W
open Go Go.RowKit Go.Proofs Go.Proofs.YtpnekhiejecipaaGreatDoor.VL Go.Proofs.YtpnekhiejecipaaGreatDoor.M
def qsd:IC:=sR [oP 6 (.mv (.c s0)),oP 7 (.mv cF)] (sR [mV 9 0,oP 10 (.lens (.t 9)),mV 8 10] (.seq (sR [mV 11 1,mV 12 8,bN 13 .gtr 11 12,mV 14 13,gF 15 14 (.mv (.t 1)),gF 16 14 (.mv (.t 2)),gF 17 14 (.lens (.t 16)),gF 18 14 (.bin .add (.t 15) (.t 17)),gF 19 14 (.bin .gtr (.t 18) (cI 40)),pT 20 14 19] (cD 20 (sR [mV 21 0,mV 6 21,oP 7 (.mv cF)] .ret) .skip)) (.seq (sR [mV 22 1,mV 23 2,oP 24 (.lens (.t 23)),bN 25 .add 22 24,mV 26 8,bN 27 .leq 25 26] (cD 27 (sR [mV 28 0,mV 6 28,oP 7 (.mv cT)] .ret) .skip)) (sR [mV 29 0,mV 30 2,mV 31 8,mV 32 1,bN 33 .sub 31 32,oP 34 (.sls (.t 30) (some (.t 33)) none),bN 35 .add 29 34,mV 6 35,oP 7 (.mv cT)] .ret))))
theorem dg241:Dg Tryz.prog 241 Tryz.f241 qsd [(.t 6),(.t 7)]:=⟨Tryz.func241,by kernel_rfl,by kernel_rfl⟩
theorem c241 (came:B) (n:Int) (text:B) (hn:0≤n∧n≤1000) (hc:came.length≤1000) (ht:text.length≤1000):FnR Tryz.prog G 241 [.str came,.int .i64 n,.str text] (.tup [.str (q0a came n text).1,.bool (q0a came n text).2]):=by
 refine mF dg241 Tryz.ntmps241 ?_
 simp only[qsd,go_sem]
 with_reducible repeat' (first|rw[q01 (by omega)];try simp only[go_sem]|refine br ?_ ?_<;>intro h e<;>(try simp only[e,go_sem])<;>clear e|refine sd ?_<;>try simp only[go_sem]|fail)
 ·have:q0a came n text=(came,false):=by
   unfold q0a;rw[if_pos (by simp;omega)]
  rw[this];exact⟨rfl,rfl⟩
 ·have:q0a came n text=(came,false):=by
   unfold q0a;rw[if_pos (by simp;omega)]
  rw[this];exact⟨rfl,rfl⟩
 ·have:q0a came n text=(came,true):=by
   unfold q0a;rw[if_neg (by simp;omega),if_pos (by omega)]
  rw[this];exact⟨rfl,rfl⟩
 ·refine pureG (by simp;omega) ?_
  simp only[go_sem]
  have:q0a came n text=(came++text.drop (came.length - n).toNat,true):=by
   unfold q0a;rw[if_neg (by simp;omega),if_neg (by omega)]
  rw[this,List.take_length];exact⟨rfl,rfl⟩
def qtl:IC:=sR [oP 2 (.mv cF)] (sR [mV 3 0,oP 4 (.call 161 [.t 3]),mV 5 4,gT 6 5 (.mv (.t 0)),gT 7 5 (.lens (.t 6)),gT 8 5 (.bin .leq (.t 7) (cI 24)),pF 9 5 8,mV 10 9,gT 11 10 (.mv (.t 0)),gT 12 10 (.call 93 [.t 11]),gT 13 10 (.bin .eql (.t 12) (.c i0)),pF 14 10 13,mV 2 14] .ret)
theorem dg111:Dg Tryz.prog 111 Tryz.f111 qtl [(.t 2)]:=⟨Tryz.func111,by kernel_rfl,by kernel_rfl⟩
theorem c111 (t:B) (hl:t.length≤2000000):FnR Tryz.prog G 111 [.str t] (.bool (q42 t)):=by
 refine mF dg111 Tryz.ntmps111 ?_
 simp only[qtl,go_sem]
 have c1:=qru t hl
 have c2:=c93 t hl
 with_reducible repeat' (first|refine br ?_ ?_<;>intro h e<;>(try simp only[e,go_sem])<;>clear e|rw[q01 (by omega)]|refine sd ?_<;>try simp only[go_sem]|(first|refine cr (c1 ..) ?_|refine cr (c2 ..) ?_)<;>try simp only[go_sem]|fail)
 all_goals simp_all[q42]
 all_goals omega
def qvb:IC:=sR [oP 2 (.mv cF)] (sR [mV 5 0,oP 6 (.call 162 [.t 5]),mV 3 6] (.seq (sR [oP 4 (.mv (.c i0))] (.block 0 (.loop (.seq (sR [mV 7 4,mV 8 3,oP 9 (.len (.t 8)),bN 10 .lss 7 9] (cD 10 .skip (.exit 0))) (.seq (.block 1 (sR [mV 13 3,mV 14 4,oP 15 (.iad 2 (.t 13) (.t 14)),lA 16 2 15,oP 17 (.call 119 [.t 16])] (cD 17 (sR [oP 2 (.mv cF)] .ret) .skip))) (.reg [mV 11 4,oP 12 (.bin .add (.t 11) (cI 1)),mV 4 12])))))) (sR [oP 2 (.mv cT)] .ret)))
theorem dg112:Dg Tryz.prog 112 Tryz.f112 qvb [(.t 2)]:=⟨Tryz.func112,by kernel_rfl,by kernel_rfl⟩
theorem c112 (t:B) (hl:t.length≤2000000):FnR Tryz.prog G 112 [.str t] (.bool (qv5 t)):=by
 refine mF dg112 Tryz.ntmps112 ?_
 simp only[qvb,go_sem]
 refine q0s (c162 t hl) rfl rfl ?_
 simp only[go_sem]
 have hnl:(q18 t).length≤2000000:=by
  have h1:=q21 t
  have h2:=q61 (q19 t)
  unfold q18;omega
 unfold qv5
 generalize q18 t=l at *
 refine q0h (λi:Nat=>⟨q0e [(3,.sl 2 (l.map E.row)),(4,.int .i64 (i:Int))],q09 []⟩) (λi=>l.length - i) (λi=>i≤l.length∧(l.take i).any E.door=false) 0 (leQ []) ⟨Nat.zero_le _,by simp⟩ ?_
 intro i ⟨hi,ha⟩
 simp only[go_sem]
 by_cases h:(i:Int)<l.length
 ·simp only[eq_true h,go_sem]
  have hil:i<l.length:=by omega
  have hg:l.getD i default=l[i]:=by simp[List.getD,hil]
  refine effG (by omega) ?_
  simp only[hg,go_sem]
  with_reducible repeat' (first|refine br ?_ ?_<;>intro h e<;>(try simp only[e,go_sem,hg])<;>clear e|rw[q01 (by omega)]|refine sd ?_<;>try simp only[go_sem,hg]|(first|refine cr (qga ..) ?_)<;>try simp only[go_sem,hg]|fail)
  ·have:l.any E.door=true:=List.any_eq_true.2 ⟨_,List.getElem_mem hil,by assumption⟩
   rw[this];rfl
  ·refine⟨i+1,by omega,⟨by omega, ?_⟩,(leQ [])⟩
   rw[List.take_add_one,zE hil]
   simp only[Option.toList_some,List.any_append,ha,List.any_cons,List.any_nil,Bool.or_false,Bool.false_or]
   assumption
 ·simp only[eq_false h,go_sem]
  have:i=l.length:=by omega
  subst this
  rw[List.take_length] at ha
  rw[ha];rfl
def ic55:IC:=sR [oP 4 (.box 63 (.t 0)),oP 5 (.box 63 (.t 1)),oP 8 (.alloc 69 [i0,i0,i0,i0,s0,s0,i0,i0,s0,s0]),oP 9 (.mv cF)] (.seq (sR [lA 10 2 4,oP 11 (.call 109 [.t 10]),oP 12 (.un .not (.t 11)),mV 13 12,gF 14 13 (.ld 2 true (.t 5)),gF 15 13 (.call 110 [.t 14]),gF 16 13 (.un .not (.t 15)),pT 17 13 16,mV 18 17,gF 19 18 (.mv (.t 2)),gF 20 18 (.call 111 [.t 19]),gF 21 18 (.un .not (.t 20)),pT 22 18 21,mV 23 22,gF 24 23 (.mv (.t 2)),gF 25 23 (.call 112 [.t 24]),gF 26 23 (.un .not (.t 25)),pT 27 23 26,mV 28 27,gF 29 28 (.mv (.t 3)),gF 30 28 (.call 111 [.t 29]),gF 31 28 (.un .not (.t 30)),pT 32 28 31] (cD 32 (sR [oP 33 (.build [i0,i0,i0,i0,s0,s0,i0,i0,s0,s0] []),nP (.sto 10 (.t 8) (.t 33)),oP 9 (.mv cF)] .ret) .skip)) (sR [lA 34 2 4,lA 35 2 5,mV 36 2,mV 37 3,oP 38 (.build [i0,i0,i0,i0,s0,s0,i0,i0,s0,s0] [(0,(2,.t 34)),(2,(2,.t 35)),(4,(1,.t 36)),(5,(1,.t 37))]),nP (.sto 10 (.t 8) (.t 38)),oP 9 (.mv cT)] .ret))
theorem dg55:Dg Tryz.prog 55 Tryz.f55 ic55 [(.cell 8 10 true),(.t 9)]:=⟨Tryz.func55,by kernel_rfl,by kernel_rfl⟩
theorem c55 (i o:E) (up down:B) (h1:up.length≤2000000) (h2:down.length≤2000000):FnR Tryz.prog G 55 [.agg [.int .i64 i.a,.int .i64 i.p],.agg [.int .i64 o.a,.int .i64 o.p],.str up,.str down]
 (.tup [.agg (Conv.row ((q1f i o up down).getD .zero)),.bool (q1f i o up down).isSome]):=by
 refine mF dg55 Tryz.ntmps55 ?_
 simp only[ic55,go_sem]
 have c1:=c111 up h1
 have c2:=c111 down h2
 have c3:=c112 up h1
 with_reducible repeat' (first|refine br ?_ ?_<;>intro h e<;>(try simp only[e,go_sem])<;>clear e|rw[q01 (by omega)]|refine sd ?_<;>try simp only[go_sem]|(first|refine cr (qvm ..) ?_|refine cr (c110 ..) ?_|refine cr (c1 ..) ?_|refine cr (c2 ..) ?_|refine cr (c3 ..) ?_)<;>try simp only[go_sem]|fail)
 all_goals simp_all[q1f,Conv.zero,E.zero]
def qrz:IC:=sR [oP 1 (.box 69 (.t 0)),oP 2 (.mv cF)] (sR [fD 6 0 1,lA 7 2 6,fD 8 2 1,lA 9 2 8,fD 10 4 1,lD 11 1 10,fD 12 5 1,lD 13 1 12,oP 14 (.call 55 [.t 7,.t 9,.t 11,.t 13]),mV 5 14,eX 15 5 0,eX 16 5 1,oP 3 (.alloc 69 [i0,i0,i0,i0,s0,s0,i0,i0,s0,s0]),nP (.sto 10 (.t 3) (.t 15)),mV 4 16] (sR [mV 17 4,mV 18 17,gT 19 18 (.fad 6 (.t 1)),gT 20 18 (.ld 1 false (.t 19)),gT 21 18 (.fad 4 (.t 1)),gT 22 18 (.ld 1 false (.t 21)),gT 23 18 (.lens (.t 22)),gT 24 18 (.call 114 [.t 20,.c i0,.t 23]),pF 25 18 24,mV 26 25,gT 27 26 (.fad 7 (.t 1)),gT 28 26 (.ld 1 false (.t 27)),gT 29 26 (.fad 5 (.t 1)),gT 30 26 (.ld 1 false (.t 29)),gT 31 26 (.lens (.t 30)),gT 32 26 (.call 114 [.t 28,.c i0,.t 31]),pF 33 26 32,mV 34 33,gT 35 34 (.fad 8 (.t 1)),gT 36 34 (.ld 1 false (.t 35)),gT 37 34 (.call 161 [.t 36]),pF 38 34 37,mV 39 38,gT 40 39 (.fad 9 (.t 1)),gT 41 39 (.ld 1 false (.t 40)),gT 42 39 (.call 161 [.t 41]),pF 43 39 42,mV 2 43] .ret))
theorem dg113:Dg Tryz.prog 113 Tryz.f113 qrz [(.t 2)]:=⟨Tryz.func113,by kernel_rfl,by kernel_rfl⟩
theorem c113 (c:Conv) (h1:c.up.length≤2000000) (h2:c.down.length≤2000000) (h3:c.upGot.length≤2000000) (h4:c.downGot.length≤2000000):FnR Tryz.prog G 113 [.agg [.int .i64 c.ins.a,.int .i64 c.ins.p,.int .i64 c.out.a,.int .i64 c.out.p,.str c.up,.str c.down,.int .i64 c.upAck,.int .i64 c.downAck,.str c.upGot,.str c.downGot]] (.bool (convOk c)):=by
 refine mF dg113 Tryz.ntmps113 ?_
 simp only[qrz,go_sem]
 refine q0s (c55 c.ins c.out c.up c.down h1 h2) rfl rfl ?_
 simp only[go_sem]
 have c1:=qru c.upGot h3
 have c2:=qru c.downGot h4
 with_reducible repeat' (first|refine br ?_ ?_<;>intro h e<;>(try simp only[e,go_sem])<;>clear e|rw[q01 (by omega)]|refine sd ?_<;>try simp only[go_sem]|(first|refine cr (qda ..) ?_|refine cr (c1 ..) ?_|refine cr (c2 ..) ?_)<;>try simp only[go_sem]|fail)
 all_goals simp_all[convOk]
def qpy:IC:=sR [oP 5 (.box 69 (.t 0)),oP 10 (.alloc 65 [i0,i0,i0,i0,i0,i0,s0]),oP 11 (.mv cF)] (sR [fD 14 0 5,lA 15 2 14,fD 16 2 5,lA 17 2 16,mV 18 3,oP 19 (.build [i0,i0,i0,i0,i0,i0,s0] [(0,(1,cI 1)),(1,(2,.t 15)),(3,(2,.t 17)),(5,(1,.t 18))]),oP 12 (.alloc 65 [i0,i0,i0,i0,i0,i0,s0]),nP (.sto 7 (.t 12) (.t 19))] (sR [fD 20 4 5,lD 21 1 20,mV 13 21] (.seq (sR [mV 22 1,oP 23 (.un .not (.t 22))] (cD 23 (sR [fD 24 2 5,lA 25 2 24,fD 26 1 12,nP (.sto 2 (.t 26) (.t 25))] (sR [mV 27 2,oP 28 (.build [i0,i0] [(0,(1,cI 9)),(1,(1,.t 27))]),fD 29 3 12,nP (.sto 2 (.t 29) (.t 28))] (.reg [fD 30 5 5,lD 31 1 30,mV 13 31]))) .skip)) (.seq (sR [mV 32 3,mV 33 13,oP 34 (.lens (.t 33)),oP 35 (.bin .sub (.t 34) (cI 1)),oP 36 (.call 114 [.t 32,.c i0,.t 35]),oP 37 (.un .not (.t 36)),mV 38 37,gF 39 38 (.mv (.t 4)),gF 40 38 (.bin .lss (.t 39) (cI 1)),pT 41 38 40,mV 42 41,gF 43 42 (.mv (.t 1)),gF 44 42 (.un .not (.t 43)),gF 45 42 (.mv (.t 44)),gT 46 45 (.fad 3 (.t 12)),gT 47 45 (.ld 2 true (.t 46)),gT 48 45 (.call 119 [.t 47]),gT 49 45 (.un .not (.t 48)),gF 50 42 (.pick (.t 45) (.t 49) cF),pT 51 42 50] (cD 51 (sR [oP 52 (.build [i0,i0,i0,i0,i0,i0,s0] []),nP (.sto 7 (.t 10) (.t 52)),oP 11 (.mv cF)] .ret) .skip)) (sR [mV 53 13,mV 54 3,mV 55 3,mV 56 4,mV 57 13,oP 58 (.lens (.t 57)),mV 59 3,bN 60 .sub 58 59,oP 61 (.mn (.t 56) (.t 60)),bN 62 .add 55 61,oP 63 (.sls (.t 53) (some (.t 54)) (some (.t 62))),fD 64 6 12,nP (.sto 1 (.t 64) (.t 63))] (sR [lA 65 7 12,nP (.sto 7 (.t 10) (.t 65)),oP 11 (.mv cT)] .ret))))))
theorem dg115:Dg Tryz.prog 115 Tryz.f115 qpy [(.cell 10 7 true),(.t 11)]:=⟨Tryz.func115,by kernel_rfl,by kernel_rfl⟩
theorem c115 (c:Conv) (up:Bool) (port n m:Int) (h1:c.up.length≤2000000) (h2:c.down.length≤2000000):FnR Tryz.prog G 115 [.agg [.int .i64 c.ins.a,.int .i64 c.ins.p,.int .i64 c.out.a,.int .i64 c.out.p,.str c.up,.str c.down,.int .i64 c.upAck,.int .i64 c.downAck,.str c.upGot,.str c.downGot],.bool up,.int .i64 port,.int .i64 n,.int .i64 m]
 (.tup [.agg (Pk.row ((say c up port n m).getD .zero)),.bool (say c up port n m).isSome]):=by
 refine mF dg115 Tryz.ntmps115 ?_
 simp only[qpy,go_sem]
 cases up<;>simp only[go_sem]
 ·have hno:=λh=>qbi (c:=c) (up:=false) (port:=port) (n:=n) (m:=m) h
  have hyes:=λh1 h2 h3=>q7t (c:=c) (up:=false) (port:=port) (n:=n) (m:=m) h1 h2 h3
  simp only[cond_false,true_and,Bool.false_eq_true,false_or] at hno hyes
  rw[q01 (by omega)]
  refine q0s (qda n 0 ((c.down.length:Int) - 1)) rfl rfl ?_
  cases hw:q0m n 0 ((c.down.length:Int) - 1)<;>simp only[go_sem]
  ·rw[hno (.inl hw)];simp[Pk.zero,E.zero]
  have hw2:=M.within_iff.1 hw
  have w1:IntKind.i64.wrap ((c.down.length:Int) - n)=c.down.length - n:=q01 (by omega)
  have w2:1≤m→IntKind.i64.wrap (n+min m ((c.down.length:Int) - n))=n+min m ((c.down.length:Int) - n):=λ_=>q01 (by omega)
  with_reducible repeat' (first|refine br ?_ ?_<;>intro h e<;>(try simp only[e,go_sem,w1])<;>clear e|rw[q01 (by omega)]|refine sd ?_<;>try simp only[go_sem,w1]|(first|refine cr (qga ..) ?_)<;>try simp only[go_sem,w1]|fail)
  ·rw[hno (.inr (.inl (by assumption)))];simp[Pk.zero,E.zero]
  ·rw[hyes hw (by omega) (by assumption),q28 (by omega) (by omega)]
   simp
  ·rw[hno (.inr (.inr (by assumption)))];simp[Pk.zero,E.zero]
 ·have hno:=λh=>qbi (c:=c) (up:=true) (port:=port) (n:=n) (m:=m) h
  have hyes:=λh1 h2 h3=>q7t (c:=c) (up:=true) (port:=port) (n:=n) (m:=m) h1 h2 h3
  simp only[cond_true,true_or,true_implies,Bool.true_eq_false,false_and,or_false] at hno hyes
  rw[q01 (by omega)]
  refine q0s (qda n 0 ((c.up.length:Int) - 1)) rfl rfl ?_
  cases hw:q0m n 0 ((c.up.length:Int) - 1)<;>simp only[go_sem]
  ·rw[hno (.inl hw)];simp[Pk.zero,E.zero]
  have hw2:=M.within_iff.1 hw
  have w1:IntKind.i64.wrap ((c.up.length:Int) - n)=c.up.length - n:=q01 (by omega)
  have w2:1≤m→IntKind.i64.wrap (n+min m ((c.up.length:Int) - n))=n+min m ((c.up.length:Int) - n):=λ_=>q01 (by omega)
  with_reducible repeat' (first|refine br ?_ ?_<;>intro h e<;>(try simp only[e,go_sem,w1])<;>clear e|rw[q01 (by omega)]|refine sd ?_<;>try simp only[go_sem,w1]|(first|refine cr (qga ..) ?_)<;>try simp only[go_sem,w1]|fail)
  ·rw[hno (.inr (by assumption))];simp[Pk.zero,E.zero]
  ·rw[hyes hw (by omega),q28 (by omega) (by omega)]
   simp
def q93 (w:M.World) (r:V) (out:List Hs):Prop:=r=.agg [.own 0 w.convs.length,.own 1 w.door.map.length,.own 2 w.door.flows.length,.own 3 w.nets.length]∧out=[.arr 69 10 (w.convs.map Conv.row),.arr 145 3 (w.door.map.map Pair.row),.arr 169 8 (w.door.flows.map Flw.row),.arr 65 7 (w.nets.map Pk.row)]
theorem q1j {w:M.World} {l:List (Nat×V)} {mm:List (Nat×Hs)} {d c:Nat} (n0 n1 n2 n3:Nat) (h4:q0e l d=.pv c 0)
 (m4:q09 mm c=.var 33 [.own n0 w.convs.length,.own n1 w.door.map.length,.own n2 w.door.flows.length,.own n3 w.nets.length])
 (m0:q09 mm n0=.arr 69 10 (w.convs.map Conv.row)) (m1:q09 mm n1=.arr 145 3 (w.door.map.map Pair.row)) (m2:q09 mm n2=.arr 169 8 (w.door.flows.map Flw.row)) (m3:q09 mm n3=.arr 65 7 (w.nets.map Pk.row))
 (hne:[n0,n1,n2,n3].Nodup):q50 [.cell d 4 true] 0 (q93 w) .ret ⟨q0e l,q09 mm⟩:=by
 refine q0v (.agg [.own 0 w.convs.length,.own 1 w.door.map.length,.own 2 w.door.flows.length,.own 3 w.nets.length]) [.arr 69 10 (w.convs.map Conv.row),.arr 145 3 (w.door.map.map Pair.row),.arr 169 8 (w.door.flows.map Flw.row),.arr 65 7 (w.nets.map Pk.row)] [(0,n0),(1,n1),(2,n2),(3,n3)] ?_ ⟨rfl,rfl⟩ ?_ (by simpa[q0r,q0b] using hne) (by simp only[go_sem])
 ·simp only[go_sem,h4,m4]
 ·simp only[go_sem,m0,m1,m2,m3]
theorem qoc (o:Option Pk):(bif o.isSome then some (o.getD .zero) else none)=o:=by cases o<;>rfl
def qt8:IC:=sR [oP 2 (.box 33 (.t 0)),oP 3 (.box 63 (.t 1)),oP 4 (.mv (.c i0))] (.seq (sR [oP 5 (.mv (.c i0))] (.block 0 (.loop (.seq (sR [mV 6 5,fD 7 1 2,fD 8 0 7,lD 9 1 8,oP 10 (.len (.t 9)),bN 11 .lss 6 10] (cD 11 .skip (.exit 0))) (.seq (.block 1 (.seq (.drw [0,1,3,0,15,31,63,0,255] [(0,fD 14 1 2),(1,fD 15 0 14),(2,lD 16 1 15),(3,mV 17 5),(4,oP 18 (.iad 3 (.t 16) (.t 17))),(5,fD 19 1 18),(6,lA 20 2 19),(7,lA 21 2 3),(8,oP 22 (.eqs false [.i,.i] (.t 20) (.t 21)))]) (cD 22 (sR [fD 23 1 2,fD 24 0 23,lD 25 1 24,mV 26 5,oP 27 (.iad 3 (.t 25) (.t 26)),fD 28 0 27,lD 29 1 28,mV 4 29] .ret) .skip))) (.reg [mV 12 5,oP 13 (.bin .add (.t 12) (cI 1)),mV 5 13])))))) (sR [oP 4 (.mv (.c i0))] .ret))
theorem dg116:Dg Tryz.prog 116 Tryz.f116 qt8 [(.t 4)]:=⟨Tryz.func116,by kernel_rfl,by kernel_rfl⟩
theorem c116 (w:M.World) (i:E) (hl:w.door.map.length≤2000000):FnR Tryz.prog G 116 [.agg [.sl 10 (w.convs.map Conv.row),.sl 3 (w.door.map.map Pair.row),.sl 8 (w.door.flows.map Flw.row),.sl 7 (w.nets.map Pk.row)],.agg [.int .i64 i.a,.int .i64 i.p]] (.int .i64 (portOf w.door.map i)):=by
 refine mF dg116 Tryz.ntmps116 ?_
 simp only[qt8,go_sem]
 refine q0h (λk:Nat=>⟨q0e [(2,.pv 1002 0),(3,.pv 1003 0),(5,.int .i64 (k:Int))],q09 [(1002,.var 33 [.sl 10 (w.convs.map Conv.row),.sl 3 (w.door.map.map Pair.row),.sl 8 (w.door.flows.map Flw.row),.sl 7 (w.nets.map Pk.row)]),(1003,.var 63 [.int .i64 i.a,.int .i64 i.p])]⟩) (λk=>w.door.map.length - k)
  (λk=>k≤w.door.map.length∧portOf w.door.map i=portOf (w.door.map.drop k) i) 0 (leQ []) ⟨Nat.zero_le _,by simp⟩ ?_
 intro k ⟨hk,ha⟩
 simp only[go_sem]
 by_cases h:(k:Int)<w.door.map.length
 ·have hil:k<w.door.map.length:=by omega
  have hg:w.door.map.getD k default=w.door.map[k]:=by simp[List.getD,hil]
  rw[List.drop_eq_getElem_cons hil,q3b] at ha
  simp only[eq_true h,go_sem]
  with_reducible repeat' (first|refine br ?_ ?_<;>intro h e<;>(try simp only[e,go_sem,hg,E.ext_iff'])<;>clear e|rw[q01 (by omega)]|refine sd ?_<;>try simp only[go_sem,hg,E.ext_iff']|fail)
  ·rw[if_pos (by assumption)] at ha
   rw[ha]
  ·rw[if_neg (by assumption)] at ha
   exact⟨k+1,by omega,⟨by omega,ha⟩,(leQ [])⟩
 ·simp only[eq_false h,go_sem]
  have:k=w.door.map.length:=by omega
  subst this
  rw[ha,List.drop_length];rfl
def ic60:IC:=sR [oP 2 (.box 33 (.t 0)),oP 3 (.box 65 (.t 1)),oP 4 (.mv cF)] (.seq (sR [oP 5 (.mv (.c i0))] (.block 0 (.loop (.seq (sR [mV 6 5,fD 7 0 2,lD 8 1 7,oP 9 (.len (.t 8)),bN 10 .lss 6 9] (cD 10 .skip (.exit 0))) (.seq (.block 1 (.seq (.drw [0,1,0,7,15,31,0,64,255] [(0,fD 13 0 2),(1,lD 14 1 13),(2,mV 15 5),(3,oP 16 (.iad 10 (.t 14) (.t 15))),(4,fD 17 2 16),(5,lA 18 2 17),(6,fD 19 1 3),(7,lA 20 2 19),(8,oP 21 (.eqs false [.i,.i] (.t 18) (.t 20)))]) (cD 21 (sR [oP 4 (.mv cF)] .ret) .skip))) (.reg [mV 11 5,oP 12 (.bin .add (.t 11) (cI 1)),mV 5 12])))))) (sR [lA 22 7 3,oP 23 (.call 118 [.t 22]),mV 24 23,gT 25 24 (.fad 1 (.t 3)),gT 26 24 (.ld 2 true (.t 25)),gT 27 24 (.call 110 [.t 26]),pF 28 24 27,mV 29 28,gT 30 29 (.fad 3 (.t 3)),gT 31 29 (.ld 2 true (.t 30)),gT 32 29 (.call 119 [.t 31]),pF 33 29 32,mV 4 33] .ret))
theorem dg60:Dg Tryz.prog 60 Tryz.f60 ic60 [(.t 4)]:=⟨Tryz.func60,by kernel_rfl,by kernel_rfl⟩
theorem c60 (w:M.World) (p:Pk) (hl:w.convs.length≤2000000) (ht:p.text.length≤2000000):FnR Tryz.prog G 60 [.agg [.sl 10 (w.convs.map Conv.row),.sl 3 (w.door.map.map Pair.row),.sl 8 (w.door.flows.map Flw.row),.sl 7 (w.nets.map Pk.row)],.agg [.int .i64 p.kind,.int .i64 p.frm.a,.int .i64 p.frm.p,.int .i64 p.to.a,.int .i64 p.to.p,.int .i64 p.at_,.str p.text]] (.bool (q1q w p)):=by
 refine mF dg60 Tryz.ntmps60 ?_
 simp only[ic60,go_sem]
 refine q0h (λk:Nat=>⟨q0e [(2,.pv 1002 0),(3,.pv 1003 0),(5,.int .i64 (k:Int))],q09 [(1002,.var 33 [.sl 10 (w.convs.map Conv.row),.sl 3 (w.door.map.map Pair.row),.sl 8 (w.door.flows.map Flw.row),.sl 7 (w.nets.map Pk.row)]),(1003,.var 65 [.int .i64 p.kind,.int .i64 p.frm.a,.int .i64 p.frm.p,.int .i64 p.to.a,.int .i64 p.to.p,.int .i64 p.at_,.str p.text])]⟩) (λk=>w.convs.length - k)
  (λk=>k≤w.convs.length∧(w.convs.take k).any (λc=>decide (c.out=p.frm))=false) 0 (leQ []) ⟨Nat.zero_le _,by simp⟩ ?_
 intro k ⟨hk,ha⟩
 simp only[go_sem]
 by_cases h:(k:Int)<w.convs.length
 ·have hil:k<w.convs.length:=by omega
  have hg:w.convs.getD k default=w.convs[k]:=by simp[List.getD,hil]
  simp only[eq_true h,go_sem]
  with_reducible repeat' (first|refine br ?_ ?_<;>intro h e<;>(try simp only[e,go_sem,hg,E.ext_iff'])<;>clear e|rw[q01 (by omega)]|refine sd ?_<;>try simp only[go_sem,hg,E.ext_iff']|fail)
  ·have:w.convs.any (λc=>decide (c.out=p.frm))=true:=List.any_eq_true.2 ⟨_,List.getElem_mem hil,by simpa using(by assumption)⟩
   simp[q1q,this]
  ·refine⟨k+1,by omega,⟨by omega, ?_⟩,(leQ [])⟩
   rw[List.take_add_one,zE hil]
   simp only[Option.toList_some,List.any_append,ha,List.any_cons,List.any_nil,Bool.or_false,Bool.false_or,decide_eq_false_iff_not]
   assumption
 ·simp only[eq_false h,go_sem]
  have:k=w.convs.length:=by omega
  subst this
  rw[List.take_length] at ha
  have c1:=c118 p ht
  with_reducible repeat' (first|refine br ?_ ?_<;>intro h e<;>(try simp only[e,go_sem])<;>clear e|rw[q01 (by omega)]|refine sd ?_<;>try simp only[go_sem]|(first|refine cr (c1 ..) ?_|refine cr (c110 ..) ?_|refine cr (qga ..) ?_)<;>try simp only[go_sem]|fail)
  all_goals simp_all[q1q,Pk.inward]
theorem qje (c:Conv) (port n m:Int):say c true port n m=say c true 0 n m:=rfl
def ic57:IC:=sR [oP 2 (.box 33 (.t 0)),oP 3 (.box 67 (.t 1)),oP 4 (.alloc 65 [i0,i0,i0,i0,i0,i0,s0]),oP 5 (.mv cF)] (.seq (sR [fD 7 1 3,lD 8 1 7,fD 9 0 2,lD 10 1 9,oP 11 (.len (.t 10)),oP 12 (.bin .sub (.t 11) (cI 1)),oP 13 (.call 114 [.t 8,.c i0,.t 12]),oP 14 (.un .not (.t 13))] (cD 14 (sR [oP 15 (.build [i0,i0,i0,i0,i0,i0,s0] []),nP (.sto 7 (.t 4) (.t 15)),oP 5 (.mv cF)] .ret) .skip)) (sR [fD 16 0 2,lD 17 1 16,fD 18 1 3,lD 19 1 18,oP 20 (.iad 10 (.t 17) (.t 19)),lA 21 10 20,oP 6 (.alloc 69 [i0,i0,i0,i0,s0,s0,i0,i0,s0,s0]),nP (.sto 10 (.t 6) (.t 21))] (.seq (.drw [0,0,2,6,0,0,32,112,0,256,0,1024,4095,8191,8191,32767,65535] [(0,lA 22 10 6),(1,fD 23 0 3),(2,lD 24 1 23),(3,oP 25 (.bin .eql (.t 24) (cI 1))),(4,lA 26 4 2),(5,fD 27 0 6),(6,lA 28 2 27),(7,oP 29 (.call 116 [.t 26,.t 28])),(8,fD 30 2 3),(9,lD 31 1 30),(10,fD 32 3 3),(11,lD 33 1 32),(12,oP 34 (.call 115 [.t 22,.t 25,.t 29,.t 31,.t 33])),(13,eX 35 34 0),(14,eX 36 34 1),(15,nP (.sto 7 (.t 4) (.t 35))),(16,mV 5 36)]) .ret)))
theorem dg57:Dg Tryz.prog 57 Tryz.f57 ic57 [(.cell 4 7 true),(.t 5)]:=⟨Tryz.func57,by kernel_rfl,by kernel_rfl⟩
theorem c57 (w:M.World) (e:Ev) (hm:w.door.map.length≤2000000) (hc:w.convs.length≤2000000) (ht:∀c∈w.convs,c.up.length≤2000000∧c.down.length≤2000000):FnR Tryz.prog G 57 [.agg [.sl 10 (w.convs.map Conv.row),.sl 3 (w.door.map.map Pair.row),.sl 8 (w.door.flows.map Flw.row),.sl 7 (w.nets.map Pk.row)],.agg [.int .i64 e.kind,.int .i64 e.a,.int .i64 e.b,.int .i64 e.c,.int .i64 e.pkt.kind,.int .i64 e.pkt.frm.a,.int .i64 e.pkt.frm.p,.int .i64 e.pkt.to.a,.int .i64 e.pkt.to.p,.int .i64 e.pkt.at_,.str e.pkt.text]]
 (.tup [.agg (Pk.row ((q6v w (decide (e.kind=1)) e.a e.b e.c).getD .zero)),.bool (q6v w (decide (e.kind=1)) e.a e.b e.c).isSome]):=by
 refine mF dg57 Tryz.ntmps57 ?_
 simp only[ic57,go_sem]
 generalize hw:q0m e.a 0 ((w.convs.length:Int) - 1)=b
 have hw2:b=true→0≤e.a∧e.a≤(w.convs.length:Int) - 1:=λh=>M.within_iff.1 (hw.trans h)
 rw[q01 (by omega)]
 refine q0s (qda e.a 0 ((w.convs.length:Int) - 1)) rfl rfl ?_
 rw[hw]
 cases b<;>simp only[go_sem]
 ·have:q6v w (decide (e.kind=1)) e.a e.b e.c=none:=by simp[q6v,hw]
  rw[this]
  simp[Pk.zero,E.zero]
 have hw2:=hw2 rfl
 have hil:e.a.toNat<w.convs.length:=by omega
 have hg:w.convs.getD e.a.toNat default=w.convs[e.a.toNat]:=by simp[List.getD,hil]
 have hcv:=ht _ (List.getElem_mem hil)
 have hx:q6v w (decide (e.kind=1)) e.a e.b e.c=say w.convs[e.a.toNat] (decide (e.kind=1)) (portOf w.door.map w.convs[e.a.toNat].ins) e.b e.c:=by
  simp only[q6v,hw,if_true,zE hil]
  cases decide (e.kind=1)
  ·rfl
  ·simp only[cond_true];rw[qje _ (portOf _ _)]
 rw[hx]
 generalize hcc:w.convs[e.a.toNat]=c at *
 have p1:=c116 w c.ins hm
 have p2:=c115 c (decide (e.kind=1)) (portOf w.door.map c.ins) e.b e.c hcv.1 hcv.2
 with_reducible repeat' (first|refine br ?_ ?_<;>intro h e<;>(try simp only[e,go_sem,hg])<;>clear e|rw[q01 (by omega)]|refine sd ?_<;>try simp only[go_sem,hg]|(first|refine cr (p1 ..) ?_|refine cr (p2 ..) ?_)<;>try simp only[go_sem,hg]|fail)
def ic58:IC:=sR [oP 3 (.box 33 (.t 0)),oP 4 (.box 65 (.t 1)),oP 6 (.alloc 33 [.nils,.nils,.nils,.nils])] (.seq (sR [mV 7 2,mV 8 7,gT 9 8 (.fad 3 (.t 3)),gT 10 8 (.ld 1 false (.t 9)),gT 11 8 (.len (.t 10)),gT 12 8 (.bin .lss (.t 11) (cI 10)),pF 13 8 12] (cD 13 (.reg [fD 14 3 3,lD 15 1 14,lA 16 7 4,oP 17 (.bsl 65 7 [.t 16]),oP 18 (.app 65 7 (.t 15) (.t 17)),fD 19 3 3,nP (.sto 1 (.t 19) (.t 18))]) .skip)) (sR [lA 20 4 3,nP (.sto 4 (.t 6) (.t 20))] .ret))
theorem dg58:Dg Tryz.prog 58 Tryz.f58 ic58 [(.cell 6 4 true)]:=⟨Tryz.func58,by kernel_rfl,by kernel_rfl⟩
theorem c58 (w:M.World) (p:Pk) (ok:Bool) (hn:w.nets.length≤2000000):FnP Tryz.prog G 58 0 [.arr 69 10 (w.convs.map Conv.row),.arr 145 3 (w.door.map.map Pair.row),.arr 169 8 (w.door.flows.map Flw.row),.arr 65 7 (w.nets.map Pk.row)] [.agg [.own 0 w.convs.length,.own 1 w.door.map.length,.own 2 w.door.flows.length,.own 3 w.nets.length],.agg [.int .i64 p.kind,.int .i64 p.frm.a,.int .i64 p.frm.p,.int .i64 p.to.a,.int .i64 p.to.p,.int .i64 p.at_,.str p.text],.bool ok] (q93 (q3j w (bif ok then some p else none))):=by
 refine mP dg58 Tryz.ntmps58 ⟨_,_,rfl,rfl⟩ ?_
 simp only[ic58,go_sem]
 have hno:q3j w none=w:=rfl
 have hfull:¬w.nets.length<10→q3j w (some p)=w:=λh=>by simp only[q3j];rw[if_neg h]
 cases ok<;>simp only[go_sem]
 ·rw[hno]
  exact q1j (c:=1006) 0 1 2 3 (by simp only[go_sem]) (by simp only[go_sem]) (by simp only[go_sem]) (by simp only[go_sem]) (by simp only[go_sem]) (by simp only[go_sem]) (by decide)
 with_reducible repeat' (first|refine br ?_ ?_<;>intro h e<;>(try simp only[e,go_sem])<;>clear e|rw[q01 (by omega)]|refine sd ?_<;>try simp only[go_sem]|fail)
 ·have hx:q3j w (some p)={ w with nets:=w.nets++[p] }:=by simp only[q3j];rw[if_pos (by omega)]
  rw[hx]
  refine q1j (c:=1006) 0 1 2 1018 (by simp only[go_sem]) (by simp only[go_sem];simp) (by simp only[go_sem]) (by simp only[go_sem]) (by simp only[go_sem]) (by simp only[go_sem];simp[Pk.row]) (by decide)
 ·rw[hfull (by omega)]
  exact q1j (c:=1006) 0 1 2 3 (by simp only[go_sem]) (by simp only[go_sem]) (by simp only[go_sem]) (by simp only[go_sem]) (by simp only[go_sem]) (by simp only[go_sem]) (by decide)
def putA (m:List Pair) (s:Strm) (n:Int) (t:B) (out:Bool) (r:V) (o:List Hs):Prop :=
 (put m s n t out).1=m∧r=.tup [.own 0 m.length,.agg [.str (put m s n t out).2.1.inn,.sl 2 ((put m s n t out).2.1.parts.map Part.row)],.bool (put m s n t out).2.2]∧o=[.arr 145 3 (m.map Pair.row)]
def putB (m:List Pair) (s:Strm) (n:Int) (t:B) (out:Bool) (r:V) (o:List Hs):Prop :=
 (put m s n t out).2.2=true∧r=.tup [.own 1 (put m s n t out).1.length,.agg [.str (put m s n t out).2.1.inn,.sl 2 ((put m s n t out).2.1.parts.map Part.row)],.bool true]∧o=[.dead,.arr 145 3 ((put m s n t out).1.map Pair.row)]
theorem qfy:Hs.live .dead=false:=of_eq_true (eq_self _)
theorem q6m (l:List Pc):q0q l []=[]:=by cases l<;>rfl
theorem q6e (l:B) (d n:Nat):(l.take ((d:Int)+(n:Int)).toNat).drop d=(l.drop d).take n:=by
 rw[List.drop_take];congr 1;omega
def qno:IC:=sR [oP 6 (.box 167 (.t 1)),oP 10 (.mv (.c .nils)),oP 11 (.alloc 167 [s0,.nils]),oP 12 (.mv cF)] (sR [fD 21 0 6,lD 22 1 21,oP 23 (.lens (.t 22)),mV 13 23] (.seq (sR [mV 24 2,mV 25 13,bN 26 .gtr 24 25,mV 27 26,gF 28 27 (.mv (.t 2)),gF 29 27 (.mv (.t 3)),gF 30 27 (.lens (.t 29)),gF 31 27 (.bin .add (.t 28) (.t 30)),gF 32 27 (.bin .gtr (.t 31) (cI 40)),pT 33 27 32] (cD 33 (.seq (.drw [0,0,1,7,15] [(0,mV 34 0),(1,lA 35 2 6),(2,mV 10 34),(3,nP (.sto 2 (.t 11) (.t 35))),(4,oP 12 (.mv cF))]) .ret) .skip)) (.seq (sR [mV 36 2,mV 37 3,oP 38 (.lens (.t 37)),bN 39 .add 36 38,mV 40 13,bN 41 .leq 39 40] (cD 41 (.seq (.drw [0,0,1,7,15] [(0,mV 42 0),(1,lA 43 2 6),(2,mV 10 42),(3,nP (.sto 2 (.t 11) (.t 43))),(4,oP 12 (.mv cT))]) .ret) .skip)) (.seq (.drw [0,1,0,0,0,24,60,127,255] [(0,fD 44 0 6),(1,lD 45 1 44),(2,mV 46 3),(3,mV 47 13),(4,mV 48 2),(5,bN 49 .sub 47 48),(6,oP 50 (.sls (.t 46) (some (.t 49)) none)),(7,bN 51 .add 45 50),(8,mV 14 51)]) (sR [lA 52 2 6,oP 53 (.call 258 [.t 52]),mV 15 53] (sR [mV 54 14,oP 55 (.call 233 [.t 54]),mV 16 55] (sR [mV 56 14,oP 57 (.bsl 204 2 []),fD 58 1 6,lD 59 1 58,oP 60 (.app 204 2 (.t 57) (.t 59)),oP 61 (.build [s0,.nils] [(0,(1,.t 56)),(1,(1,.t 60))]),oP 17 (.alloc 167 [s0,.nils]),nP (.sto 2 (.t 17) (.t 61))] (.seq (sR [fD 62 1 6,lD 63 1 62,oP 64 (.len (.t 63)),mV 18 64] (.block 0 (.loop (.seq (sR [mV 65 18,mV 66 16,oP 67 (.len (.t 66)),bN 68 .lss 65 67] (cD 68 .skip (.exit 0))) (.seq (.block 1 (sR [mV 71 14,mV 72 15,mV 73 15,mV 74 16,mV 75 18,oP 76 (.iad 4 (.t 74) (.t 75)),fD 77 0 76,lD 78 1 77,bN 79 .add 73 78,oP 80 (.sls (.t 71) (some (.t 72)) (some (.t 79))),mV 19 80] (sR [oP 20 (.mv (.c s0))] (.seq (sR [mV 81 4] (cD 81 (.reg [mV 83 0,mV 84 16,mV 85 18,oP 86 (.iad 4 (.t 84) (.t 85)),lA 87 4 86,mV 88 19,oP 89 (.call 259 [.t 83,.t 87,.t 88]),mV 82 89,eX 90 82 0,eX 91 82 1,mV 0 90,mV 20 91]) (.reg [mV 92 0,mV 93 16,mV 94 18,oP 95 (.iad 4 (.t 93) (.t 94)),lA 96 4 95,mV 97 19,oP 98 (.call 260 [.t 92,.t 96,.t 97]),mV 20 98]))) (.seq (.drw [0,1,0,0,12,28,60,0,252,508,1023,2047,4095] [(0,fD 99 1 17),(1,lD 100 1 99),(2,mV 101 16),(3,mV 102 18),(4,oP 103 (.iad 4 (.t 101) (.t 102))),(5,fD 104 0 103),(6,lD 105 1 104),(7,mV 106 20),(8,oP 107 (.build [i0,s0] [(0,(1,.t 105)),(1,(1,.t 106))])),(9,oP 108 (.bsl 204 2 [.t 107])),(10,oP 109 (.app 204 2 (.t 100) (.t 108))),(11,fD 110 1 17),(12,nP (.sto 1 (.t 110) (.t 109)))]) (.reg [mV 111 15,mV 112 16,mV 113 18,oP 114 (.iad 4 (.t 112) (.t 113)),fD 115 0 114,lD 116 1 115,bN 117 .add 111 116,mV 15 117])))))) (.reg [mV 69 18,oP 70 (.bin .add (.t 69) (cI 1)),mV 18 70])))))) (.seq (.drw [0,0,1,7,15] [(0,mV 118 0),(1,lA 119 2 17),(2,mV 10 118),(3,nP (.sto 2 (.t 11) (.t 119))),(4,oP 12 (.mv cT))]) .ret)))))))))
theorem qtq:Dg Tryz.prog 238 Tryz.f238 qno [(.t 10),(.cell 11 2 true),(.t 12)]:=⟨Tryz.func238,by kernel_rfl,by kernel_rfl⟩
theorem qd7 (m:List Pair) (s:Strm) (n:Int) (t:B) (out:Bool) (h:(q0a s.inn n t).2=false):put m s n t out=(m,s,false):=by simp[put,h]
theorem quk (m:List Pair) {s:Strm} (n:Int) (t:B) (out:Bool) (hs:strmOk s=true) (h:¬(n>s.inn.length∨n+t.length>40)) (h2:n+t.length≤s.inn.length):put m s n t out=(m,s,true):=by
 have hb:q0a s.inn n t=(s.inn,true):=by
  unfold q0a;rw[if_neg (by simpa using h),if_pos h2]
 obtain⟨d1,d2⟩:=q6b hs
 have:(pieces s.inn).drop s.parts.length=[]:=by rw[d2,List.drop_length]
 simp[put,hb,this,turned,q0q]
theorem q5o:∀(l:List Pc) (m:List Pair) (s:B),(turned m l s false).1=m
 | [],m,s=>rfl
 | p::ps,m,s=>by simp only[turned];rw[q5o ps];rfl
theorem c238F (m:List Pair) (s:Strm) (n:Int) (t:B) (h:PutOk m s n t):FnP Tryz.prog G 238 1 [.arr 145 3 (m.map Pair.row)] [.own 0 m.length,.agg [.str s.inn,.sl 2 (s.parts.map Part.row)],.int .i64 n,.str t,.bool false] (putA m s n t false):=by
 refine mP qtq Tryz.ntmps238 ?_ ?_
 ·refine⟨_,_, ?_,rfl,rfl⟩
  cases hb:(q0a s.inn n t).2
  ·rw[qd7 _ _ _ _ _ hb]
  ·simp[put,hb,q5o]
 obtain⟨hm,hs,hn,ht⟩:=h
 obtain⟨hp,hml⟩:=q0c hm
 obtain⟨s1,s2,s3⟩:=q0k hs
 have keep:∀l mm ok,put m s n t false=(m,s,ok)→q0e l 10=.own 0 m.length→q0e l 11=.pv 1011 0→q0e l 12=.bool ok→q09 mm 0=.arr 145 3 (m.map Pair.row)→q09 mm 1011=.var 167 [.str s.inn,.sl 2 (s.parts.map Part.row)] →
  q50 [.t 10,.cell 11 2 true,.t 12] 1 (putA m s n t false) .ret ⟨q0e l,q09 mm⟩:=λl mm ok h1 h2 h3 h4 h5 h6=>by
  refine q0v (.tup [.own 0 m.length,.agg [.str (put m s n t false).2.1.inn,.sl 2 ((put m s n t false).2.1.parts.map Part.row)],.bool (put m s n t false).2.2]) [.arr 145 3 (m.map Pair.row)] [] ?_ ⟨by rw[h1],rfl,rfl⟩ ?_ (by simp[q0r]) (by simp only[go_sem])
  ·simp only[go_sem,h1,h2,h3,h4,h6]
  ·simp only[go_sem,h5]
 simp only[qno,go_sem]
 with_reducible repeat' (first|rw[q01 (by omega)];try simp only[go_sem]|refine br ?_ ?_<;>intro h e<;>(try simp only[e,go_sem])<;>clear e|refine sd ?_<;>try simp only[go_sem]|fail)
 ·exact keep _ _ _ (qd7 _ _ _ _ _ (by unfold q0a;rw[if_pos (by simp;omega)])) (by simp only[go_sem]) (by simp only[go_sem]) (by simp only[go_sem]) (by simp only[go_sem]) (by simp only[go_sem])
 ·exact keep _ _ _ (qd7 _ _ _ _ _ (by unfold q0a;rw[if_pos (by simp;omega)])) (by simp only[go_sem]) (by simp only[go_sem]) (by simp only[go_sem]) (by simp only[go_sem]) (by simp only[go_sem])
 ·exact keep _ _ _ (quk _ _ _ _ hs (by omega) (by omega)) (by simp only[go_sem]) (by simp only[go_sem]) (by simp only[go_sem]) (by simp only[go_sem]) (by simp only[go_sem])
 have hb:q0a s.inn n t=(s.inn++t.drop (s.inn.length - n).toNat,true):=by
  unfold q0a;rw[if_neg (by simp;omega),if_neg (by omega)]
 have hbp:(q0a s.inn n t).2=true:=by rw[hb]
 have hfin:∀mm ts d,PutI m s (q0a s.inn n t).1 false mm ts (pieces (q0a s.inn n t).1).length d→_:=λmm ts d h=>qbp hbp h
 have h0:=PutI.init (x:=t.drop (s.inn.length - n).toNat) (out:=false) hp hs
 rw[hb] at hfin
 refine pureG (by simp;omega) ?_
 simp only[List.take_length,go_sem]
 generalize hin:s.inn++t.drop (s.inn.length - n).toNat=inn at *
 have hil:inn.length≤80:=by rw[←hin];simp;omega
 have hpl:=q32 inn
 with_reducible repeat' (first|rw[q01 (by omega)];try simp only[go_sem]|refine br ?_ ?_<;>intro h e<;>(try simp only[e,go_sem])<;>clear e|refine sd ?_<;>try simp only[go_sem]|fail)
 refine q0s (c258 s ⟨s1,s2,s3⟩) rfl rfl ?_
 simp only[go_sem]
 with_reducible repeat' (first|rw[q01 (by omega)];try simp only[go_sem]|refine br ?_ ?_<;>intro h e<;>(try simp only[e,go_sem])<;>clear e|refine sd ?_<;>try simp only[go_sem]|(first|refine cr (c233 ..) ?_)<;>try simp only[go_sem]|fail)
 refine q0h (λa:List B×Nat×Nat=>⟨q0e [(0,.own 0 m.length),(4,.bool false),(11,.pv 1011 0),(14,.str inn),(15,.int .i64 (a.2.2:Int)),(16,.sl 4 ((pieces inn).map Pc.row)),(17,.pv 1017 0),(18,.int .i64 (a.2.1:Int))],
  q09 [(0,.arr 145 3 (m.map Pair.row)),(1011,.var 167 [.str [],.nils]),(1017,.var 167 [.str inn,.own 1060 a.2.1]),(1060,.arr 204 2 ((s.parts++q0q ((pieces inn).drop s.parts.length) a.1).map Part.row))]⟩) (λa=>(pieces inn).length - a.2.1)
  (λa=>PutI m s inn false m a.1 a.2.1 a.2.2) ([],s.parts.length,doneP s.parts) ?_ h0 ?_
 ·refine leN [] (by simp only[go_sem];first|done|rfl) ?_ (by simp[q0b]) (by simp only[go_sem])
  simp only[go_sem];simp[q6m]
 intro⟨ts,i,d⟩ hI
 simp only at hI
 simp only[go_sem]
 have hi:=hI.hi
 by_cases h:(i:Int)<(pieces inn).length
 ·obtain⟨hst1,hst2⟩:=hI.step (by omega)
  have hml2:=q23 ((pieces inn).drop s.parts.length) ts (by have:=hI.ht;rw[List.length_drop];omega)
  have hml3:(s.parts++q0q ((pieces inn).drop s.parts.length) ts).length=i:=by rw[zA,hml2];exact hI.ht
  have hma:=q47 ((pieces inn).drop s.parts.length) ts (q1x m ((pieces inn).getD i default) ((inn.drop d).take ((pieces inn).getD i default).size)) (by have:=hI.ht;rw[List.length_drop];omega)
  have hgq:((pieces inn).drop s.parts.length).getD ts.length default=(pieces inn).getD i default:=by
   simp only[List.getD_eq_getElem?_getD,List.getElem?_drop,hI.ht]
  rw[hgq] at hma
  have hht:=hI.ht
  simp only[turn,cond_false] at hst2
  obtain⟨q,hq⟩:∃q,(pieces inn).getD i default=q:=⟨_,rfl⟩
  rw[hq] at hst1 hst2 hma
  simp only[eq_true h,go_sem]
  refine effG (by omega) ?_
  simp only[go_sem,hq]
  with_reducible repeat' (first|rw[q01 (by omega)];try simp only[go_sem,hq]|refine br ?_ ?_<;>intro h e<;>(try simp only[e,go_sem,hq])<;>clear e|refine sd ?_<;>try simp only[go_sem,hq]|fail)
  rw[q6e]
  refine q0l (c260 m q.size q.named q.e.a q.e.p ((inn.drop d).take q.size) hm) [0] false (by simp only[go_sem];first|done|simp[E.row,Pc.row,Pair.row,Part.row,Flw.row,Pk.row,Conv.row]) (by simp only[List.mem_singleton];rintro c rfl;rfl) rfl (.inr rfl) ?_
  simp only[go_sem,hq]
  with_reducible repeat' (first|rw[q01 (by omega)];try simp only[go_sem,hq]|refine br ?_ ?_<;>intro h e<;>(try simp only[e,go_sem,hq])<;>clear e|refine sd ?_<;>try simp only[go_sem,hq]|fail)
  refine⟨(ts++[q1x m q ((inn.drop d).take q.size)],i+1,d+q.size),by simp only;omega,hst2,leN [(1060,1109)] ?_ ?_ (by simp[q0b]) (by simp only[go_sem])⟩
  ·simp only[go_sem];simp
  ·simp only[go_sem,hma];simp[Part.row]
 ·simp only[eq_false h,go_sem]
  have:i=(pieces inn).length:=by omega
  subst this
  with_reducible repeat' (first|refine br ?_ ?_<;>intro h e<;>(try simp only[e,go_sem])<;>clear e|rw[q01 (by omega)]|refine sd ?_<;>try simp only[go_sem]|fail)
  have hfin:=hfin m ts d hI
  refine q0v (.tup [.own 0 m.length,.agg [.str inn,.sl 2 ((s.parts++q0q ((pieces inn).drop s.parts.length) ts).map Part.row)],.bool true]) [.arr 145 3 (m.map Pair.row)] [] ?_ ⟨by rw[hfin],by rw[hfin],rfl⟩ ?_ (by simp[q0r]) (by simp only[go_sem])
  ·simp only[go_sem]
   have:=hI.ht
   have:=q23 ((pieces inn).drop s.parts.length) ts (by rw[List.length_drop];omega)
   first|done|(simp;omega)
  ·simp only[go_sem]
def qri (m:List Pair) (s:Strm) (n:Int) (t:B) (out:Bool) (r:V) (o:List Hs):Prop:=putA m s n t out r o∨putB m s n t out r o
theorem c238T (m:List Pair) (s:Strm) (n:Int) (t:B) (h:PutOk m s n t):FnP Tryz.prog G 238 1 [.arr 145 3 (m.map Pair.row)] [.own 0 m.length,.agg [.str s.inn,.sl 2 (s.parts.map Part.row)],.int .i64 n,.str t,.bool true] (qri m s n t true):=by
 refine mP qtq Tryz.ntmps238 ?_ ?_
 ·cases hb:(q0a s.inn n t).2
  ·exact⟨_,_,.inl ⟨by rw[qd7 _ _ _ _ _ hb],rfl,rfl⟩⟩
  ·exact⟨_,_,.inr ⟨by simp[put,hb],rfl,rfl⟩⟩
 obtain⟨hm,hs,hn,ht⟩:=h
 obtain⟨hp,hml⟩:=q0c hm
 obtain⟨s1,s2,s3⟩:=q0k hs
 have keep:∀l mm ok,put m s n t true=(m,s,ok)→q0e l 10=.own 0 m.length→q0e l 11=.pv 1011 0→q0e l 12=.bool ok→q09 mm 0=.arr 145 3 (m.map Pair.row)→q09 mm 1011=.var 167 [.str s.inn,.sl 2 (s.parts.map Part.row)] →
  q50 [.t 10,.cell 11 2 true,.t 12] 1 (qri m s n t true) .ret ⟨q0e l,q09 mm⟩:=λl mm ok h1 h2 h3 h4 h5 h6=>by
  refine q0v (.tup [.own 0 m.length,.agg [.str (put m s n t true).2.1.inn,.sl 2 ((put m s n t true).2.1.parts.map Part.row)],.bool (put m s n t true).2.2]) [.arr 145 3 (m.map Pair.row)] [] ?_ (.inl ⟨by rw[h1],rfl,rfl⟩) ?_ (by simp[q0r]) (by simp only[go_sem])
  ·simp only[go_sem,h1,h2,h3,h4,h6]
  ·simp only[go_sem,h5]
 simp only[qno,go_sem]
 with_reducible repeat' (first|rw[q01 (by omega)];try simp only[go_sem]|refine br ?_ ?_<;>intro h e<;>(try simp only[e,go_sem])<;>clear e|refine sd ?_<;>try simp only[go_sem]|fail)
 ·exact keep _ _ _ (qd7 _ _ _ _ _ (by unfold q0a;rw[if_pos (by simp;omega)])) (by simp only[go_sem]) (by simp only[go_sem]) (by simp only[go_sem]) (by simp only[go_sem]) (by simp only[go_sem])
 ·exact keep _ _ _ (qd7 _ _ _ _ _ (by unfold q0a;rw[if_pos (by simp;omega)])) (by simp only[go_sem]) (by simp only[go_sem]) (by simp only[go_sem]) (by simp only[go_sem]) (by simp only[go_sem])
 ·exact keep _ _ _ (quk _ _ _ _ hs (by omega) (by omega)) (by simp only[go_sem]) (by simp only[go_sem]) (by simp only[go_sem]) (by simp only[go_sem]) (by simp only[go_sem])
 have hb:q0a s.inn n t=(s.inn++t.drop (s.inn.length - n).toNat,true):=by
  unfold q0a;rw[if_neg (by simp;omega),if_neg (by omega)]
 have hbp:(q0a s.inn n t).2=true:=by rw[hb]
 have hfin:∀mm ts d,PutI m s (q0a s.inn n t).1 true mm ts (pieces (q0a s.inn n t).1).length d→_:=λmm ts d h=>qbp hbp h
 have h0:=PutI.init (x:=t.drop (s.inn.length - n).toNat) (out:=true) hp hs
 rw[hb] at hfin
 refine pureG (by simp;omega) ?_
 simp only[List.take_length,go_sem]
 generalize hin:s.inn++t.drop (s.inn.length - n).toNat=inn at *
 have hil:inn.length≤80:=by rw[←hin];simp;omega
 have hpl:=q32 inn
 with_reducible repeat' (first|rw[q01 (by omega)];try simp only[go_sem]|refine br ?_ ?_<;>intro h e<;>(try simp only[e,go_sem])<;>clear e|refine sd ?_<;>try simp only[go_sem]|fail)
 refine q0s (c258 s ⟨s1,s2,s3⟩) rfl rfl ?_
 simp only[go_sem]
 with_reducible repeat' (first|rw[q01 (by omega)];try simp only[go_sem]|refine br ?_ ?_<;>intro h e<;>(try simp only[e,go_sem])<;>clear e|refine sd ?_<;>try simp only[go_sem]|(first|refine cr (c233 ..) ?_)<;>try simp only[go_sem]|fail)
 refine q0h (λa:List Pair×List B×Nat×Nat=>⟨q0e [(0,.own 5000 a.1.length),(4,.bool true),(11,.pv 1011 0),(14,.str inn),(15,.int .i64 (a.2.2.2:Int)),(16,.sl 4 ((pieces inn).map Pc.row)),(17,.pv 1017 0),(18,.int .i64 (a.2.2.1:Int))],
  q09 [(0,.dead),(5000,.arr 145 3 (a.1.map Pair.row)),(1011,.var 167 [.str [],.nils]),(1017,.var 167 [.str inn,.own 1060 a.2.2.1]),(1060,.arr 204 2 ((s.parts++q0q ((pieces inn).drop s.parts.length) a.2.1).map Part.row))]⟩) (λa=>(pieces inn).length - a.2.2.1)
  (λa=>PutI m s inn true a.1 a.2.1 a.2.2.1 a.2.2.2) (m,[],s.parts.length,doneP s.parts) ?_ h0 ?_
 ·refine leN' [(5000,0)] (by simp only[go_sem];first|done|rfl) ?_ (by simp[q8c,q0b,qca,qb7,qfy]) (by simp only[go_sem])
  simp only[go_sem];simp[q6m]
 intro⟨mm,ts,i,d⟩ hI
 simp only at hI
 simp only[go_sem]
 have hi:=hI.hi
 by_cases h:(i:Int)<(pieces inn).length
 ·obtain⟨hst1,hst2⟩:=hI.step (by omega)
  have hml2:=q23 ((pieces inn).drop s.parts.length) ts (by have:=hI.ht;rw[List.length_drop];omega)
  have hml3:(s.parts++q0q ((pieces inn).drop s.parts.length) ts).length=i:=by rw[zA,hml2];exact hI.ht
  have hma:=q47 ((pieces inn).drop s.parts.length) ts (q0o mm ((pieces inn).getD i default) ((inn.drop d).take ((pieces inn).getD i default).size)).2 (by have:=hI.ht;rw[List.length_drop];omega)
  have hgq:((pieces inn).drop s.parts.length).getD ts.length default=(pieces inn).getD i default:=by
   simp only[List.getD_eq_getElem?_getD,List.getElem?_drop,hI.ht]
  rw[hgq] at hma
  have hht:=hI.ht
  simp only[turn,cond_true] at hst2
  have hmml:=hI.ml
  obtain⟨q,hq⟩:∃q,(pieces inn).getD i default=q:=⟨_,rfl⟩
  rw[hq] at hst1 hst2 hma
  simp only[eq_true h,go_sem]
  refine effG (by omega) ?_
  simp only[go_sem,hq]
  with_reducible repeat' (first|rw[q01 (by omega)];try simp only[go_sem,hq]|refine br ?_ ?_<;>intro h e<;>(try simp only[e,go_sem,hq])<;>clear e|refine sd ?_<;>try simp only[go_sem,hq]|fail)
  rw[q6e]
  refine q1t (c259 mm q.size q.named q.e.a q.e.p ((inn.drop d).take q.size) hI.hp (by omega)) [5000] [] 89 1 (by simp only[go_sem];first|done|simp) (by simp only[go_sem];first|done|simp) (by simp) (by simp) (by rintro _ _ ⟨rfl,rfl⟩;simp) (by intro i hi;obtain rfl:i=0:=(by omega);simp only[go_sem]) ?_
  rintro _ _ ⟨rfl,rfl⟩
  simp only[go_sem,hq]
  with_reducible repeat' (first|rw[q01 (by omega)];try simp only[go_sem,hq]|refine br ?_ ?_<;>intro h e<;>(try simp only[e,go_sem,hq])<;>clear e|refine sd ?_<;>try simp only[go_sem,hq]|fail)
  refine⟨((q0o mm q ((inn.drop d).take q.size)).1,ts++[(q0o mm q ((inn.drop d).take q.size)).2],i+1,d+q.size),by simp only;omega,hst2,leN [(5000,108900),(1060,1109)] ?_ ?_ (by simp[q0b]) (by simp only[go_sem])⟩
  ·simp only[go_sem];simp
  ·simp only[go_sem,hma];simp[Part.row]
 ·simp only[eq_false h,go_sem]
  have:i=(pieces inn).length:=by omega
  subst this
  with_reducible repeat' (first|refine br ?_ ?_<;>intro h e<;>(try simp only[e,go_sem])<;>clear e|rw[q01 (by omega)]|refine sd ?_<;>try simp only[go_sem]|fail)
  have hfin:=hfin mm ts d hI
  refine q0v (.tup [.own 1 mm.length,.agg [.str inn,.sl 2 ((s.parts++q0q ((pieces inn).drop s.parts.length) ts).map Part.row)],.bool true]) [.dead,.arr 145 3 (mm.map Pair.row)] [(1,5000)] ?_ (.inr ⟨by rw[hfin],by rw[hfin],by rw[hfin]⟩) ?_ (by simp[q0r,q0b]) (by simp only[go_sem])
  ·simp only[go_sem]
   have:=hI.ht
   have:=q23 ((pieces inn).drop s.parts.length) ts (by rw[List.length_drop];omega)
   first|done|(simp;omega)
  ·simp only[go_sem]
end Go.Proofs.YtpnekhiejecipaaGreatDoor.W
