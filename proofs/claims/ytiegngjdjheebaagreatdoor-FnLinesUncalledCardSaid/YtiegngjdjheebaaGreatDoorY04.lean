/- Part 4 of the proof: the walk over values, the plain model, contracts of the functions of the program. -/
import Derived.Test.YtiegngjdjheebaaGreatDoorY03
import Derived.Test.YtiegngjdjheebaaGreatDoorY02
import Derived.Test.YtiegngjdjheebaaGreatDoorRows
import Derived.WalkKit
import Derived.ProofKit
import Derived.OpenShut
import Derived.ShutString
import Derived.ChangeOld
import Derived.Below
import Derived.Carry
import Derived.LaidMore
import Derived.LaidHandle
import Derived.Stop.LaidErr
import Derived.Stop.Joined
import Derived.Deep.DeepHandedRow
import Derived.Deep.DeepWitnessRowRef
import Derived.Shelf.Vars
import Derived.Shelf.Strings.OnBuilder
import Derived.Shelf.Strings.Split
set_option linter.all false
namespace Go.Proofs.YtiegngjdjheebaaGreatDoor.W
open Go Go.RowKit Go.Proofs Go.Proofs.YtiegngjdjheebaaGreatDoor.VL Go.Proofs.YtiegngjdjheebaaGreatDoor.M
def ic125:IC:=sR [oP 3 (.box 45 (.t 1)),oP 4 (.mv (.c i0))] (.seq (sR [mV 7 0,oP 8 (.len (.t 7)),oP 9 (.mv (.c i0))] (.block 0 (.loop (sR [bN 10 .lss 9 8] (.seq (.cond (.t 10) .skip (.exit 0)) (.seq (.block 1 (sR [oP 11 (.iad 3 (.t 7) (.t 9)),lA 12 3 11,oP 6 (.alloc 88 [i0,i0,i0]),nP (.sto 3 (.t 6) (.t 12))] (sR [fD 13 1 6,lA 14 2 13,lA 15 2 3,oP 16 (.eqs false [.i,.i] (.t 14) (.t 15))] (.cond (.t 16) (sR [fD 17 0 6,lD 18 1 17,mV 4 18] .ret) .skip)))) (.reg [oP 19 (.bin .add (.t 9) (.c (.int .i64 1))),mV 9 19]))))))) (sR [oP 4 (.mv (.c i0))] .ret))
theorem dg125:Dg Tryz.prog 125 Tryz.f125 ic125 [(.t 4)]:=⟨Tryz.func125,by kernel_rfl,by kernel_rfl⟩
theorem c125 (m:List Pair) (a p:Int) (hl:m.length≤2000000:=by omega):FnR Tryz.prog G 125 [.sl 3 (m.map Pair.row),.agg [.int .i64 a,.int .i64 p]] (.int .i64 (portOf m ⟨a,p⟩)):=by
 refine mF dg125 Tryz.ntmps125 ?_
 simp only[ic125,go_sem]
 refine loopN (fun i:Nat=>⟨getL [(3,.pv 1003 0),(7,.sl 3 (m.map Pair.row)),(8,.int .i64 m.length),(9,.int .i64 (i:Int))],getH [(1003,.var 45 [.int .i64 a,.int .i64 p])]⟩) (fun i=>m.length - i) (fun i=>i≤m.length∧portOf m ⟨a,p⟩=portOf (m.drop i) ⟨a,p⟩) 0 (leQ []) ⟨Nat.zero_le _,by simp⟩ ?_
 intro i ⟨hi,ha⟩
 simp only[go_sem]
 by_cases h:(i:Int)<m.length
 ·simp only[eq_true h,go_sem]
  refine effG (by omega) ?_
  have hil:i<m.length:=by omega
  rw[List.drop_eq_getElem_cons hil,portOf_cons] at ha
  have hg:m.getD i default=m[i]:=by simp[List.getD,hil]
  simp only[hg,go_sem,E.ext_iff']
  with_reducible repeat' (first|refine br ?_ ?_<;>intro h e<;>(try simp only[e,go_sem])<;>clear e|rw[i64w (by omega)]|refine sd ?_<;>try simp only[go_sem]|fail)
  ·rw[ha,if_pos h]
  ·refine⟨i+1,by omega,⟨by omega,by rw[ha,if_neg h]⟩,(leQ [])⟩
 ·simp only[eq_false h,go_sem]
  have:i=m.length:=by omega
  subst this
  rw[ha,List.drop_length,portOf_nil]
def ic184:IC:=sR [oP 4 (.alloc 45 [i0,i0]),oP 5 (.mv (.c (.bool false)))] (.seq (sR [mV 8 0,oP 9 (.len (.t 8)),oP 10 (.mv (.c i0))] (.block 0 (.loop (sR [bN 11 .lss 10 9] (.seq (.cond (.t 11) .skip (.exit 0)) (.seq (.block 1 (sR [oP 12 (.iad 3 (.t 8) (.t 10)),lA 13 3 12,oP 7 (.alloc 88 [i0,i0,i0]),nP (.sto 3 (.t 7) (.t 13))] (sR [fD 14 0 7,lD 15 1 14,mV 16 1,bN 17 .eql 15 16] (.cond (.t 17) (sR [fD 18 1 7,lA 19 2 18,nP (.sto 2 (.t 4) (.t 19)),oP 5 (.mv (.c (.bool true)))] .ret) .skip)))) (.reg [oP 20 (.bin .add (.t 10) (.c (.int .i64 1))),mV 10 20]))))))) (sR [oP 21 (.build [i0,i0] []),nP (.sto 2 (.t 4) (.t 21)),oP 5 (.mv (.c (.bool false)))] .ret))
theorem dg184:Dg Tryz.prog 184 Tryz.f184 ic184 [(.cell 4 2 true),(.t 5)]:=⟨Tryz.func184,by kernel_rfl,by kernel_rfl⟩
theorem c184 (m:List Pair) (n:Int) (hl:m.length≤2000000:=by omega):FnR Tryz.prog G 184 [.sl 3 (m.map Pair.row),.int .i64 n] (rdV (insideOf m n)):=by
 refine mF dg184 Tryz.ntmps184 ?_
 simp only[ic184,go_sem]
 refine loopN (fun i:Nat=>⟨getL [(1,.int .i64 n),(4,.pv 1004 0),(8,.sl 3 (m.map Pair.row)),(9,.int .i64 m.length),(10,.int .i64 (i:Int))],getH [(1004,.var 45 [.int .i64 0,.int .i64 0])]⟩) (fun i=>m.length - i) (fun i=>i≤m.length∧insideOf m n=insideOf (m.drop i) n) 0 (leQ []) ⟨Nat.zero_le _,by simp⟩ ?_
 intro i ⟨hi,ha⟩
 simp only[go_sem]
 by_cases h:(i:Int)<m.length
 ·simp only[eq_true h,go_sem]
  refine effG (by omega) ?_
  have hil:i<m.length:=by omega
  rw[List.drop_eq_getElem_cons hil,insideOf_cons] at ha
  have hg:m.getD i default=m[i]:=by simp[List.getD,hil]
  simp only[hg,go_sem]
  with_reducible repeat' (first|refine br ?_ ?_<;>intro h e<;>(try simp only[e,go_sem])<;>clear e|rw[i64w (by omega)]|refine sd ?_<;>try simp only[go_sem]|fail)
  ·rw[ha,if_pos h];exact⟨⟨rfl,rfl⟩,rfl⟩
  ·refine⟨i+1,by omega,⟨by omega,by rw[ha,if_neg h]⟩,(leQ [])⟩
 ·simp only[eq_false h,go_sem]
  have:i=m.length:=by omega
  subst this
  rw[ha,List.drop_length]
  exact⟨⟨rfl,rfl⟩,rfl⟩
theorem okPair_i {m:List Pair} {i:Nat} (h:i<m.length):okPair m i=(decide (m[i].port=10+(i:Int))&&m[i].ins.inside&&!(m.take i).any fun q=>decide (q.ins=m[i].ins)):=by
 simp[okPair,h]
theorem mapOk_bad {m:List Pair} {i:Nat} (h:i<m.length) (hb:okPair m i=false):mapOk m=false:=by
 have:(List.range m.length).all (okPair m)=false:=by
  rw[List.all_eq_false]
  exact⟨i,List.mem_range.2 h,by simp[hb]⟩
 simp[mapOk,this]
def ic199:IC:=sR [oP 2 (.mv (.c .nils))] (sR [mV 3 0,oP 4 (.call 217 [.t 3]),oP 5 (.call 200 [.t 4]),mV 2 5] .ret)
theorem dg199:Dg Tryz.prog 199 Tryz.f199 ic199 [(.t 2)]:=⟨Tryz.func199,by kernel_rfl,by kernel_rfl⟩
theorem c199 (rows:List (List V)) (hr:rows.length≤2000000:=by omega):FnP Tryz.prog G 199 0 [] [.sl 3 rows] (fun r o=>r=.own 0 rows.length∧o=[.arr 88 3 rows]):=by
 refine mP dg199 Tryz.ntmps199 ⟨_,_,rfl,rfl⟩ ?_
 simp only[ic199,go_sem]
 refine callO (c217 rows hr) [] 4 1 (by simp only[go_sem];first|done|simp) (by simp) (by rintro _ _ ⟨rfl,rfl⟩;simp) (by intro i hi;obtain rfl:i=0:=(by omega);simp only[go_sem]) ?_
 rintro _ _ ⟨rfl,rfl⟩
 simp only[go_sem]
 refine callU (o200 rows rows.length rfl) [100400] [] 5 1 (by simp only[go_sem];first|done|simp) (by simp only[go_sem];first|done|simp) (by simp) (by simp) (by rintro _ _ ⟨rfl,rfl⟩;simp) (by intro i hi;obtain rfl:i=0:=(by omega);simp only[go_sem]) ?_
 rintro _ _ ⟨rfl,rfl⟩
 simp only[go_sem]
 exact retN (.own 0 rows.length) [.arr 88 3 rows] [(0,100500)] (by simp only[go_sem];first|done|simp) ⟨rfl,rfl⟩ (by simp only[go_sem]) (by simp[argH]) (by simp only[go_sem])
def ic181:IC:=sR [oP 3 (.box 45 (.t 1)),oP 4 (.mv (.c .nils)),oP 5 (.mv (.c i0)),oP 6 (.mv (.c (.bool false)))] (sR [mV 10 0,oP 11 (.call 199 [.t 10]),mV 7 11] (.seq (sR [mV 12 0,lA 13 2 3,oP 14 (.call 125 [.t 12,.t 13]),mV 8 14] (sR [mV 15 8,oP 16 (.bin .neq (.t 15) (.c i0))] (.cond (.t 16) (sR [mV 17 7,mV 18 8,mV 4 17,mV 5 18,oP 6 (.mv (.c (.bool true)))] .ret) .skip))) (sR [mV 19 0,oP 20 (.len (.t 19)),oP 21 (.bin .add (.c (.int .i64 10)) (.t 20)),mV 9 21] (.seq (sR [mV 22 9,oP 23 (.bin .gtr (.t 22) (.c (.int .i64 17)))] (.cond (.t 23) (sR [mV 24 7,mV 4 24,oP 5 (.mv (.c i0)),oP 6 (.mv (.c (.bool false)))] .ret) .skip)) (sR [mV 25 7,mV 26 9,lA 27 2 3,oP 28 (.build [i0,i0,i0] [(0,(1,.t 26)),(1,(2,.t 27))]),oP 29 (.bsl 88 3 [.t 28]),oP 30 (.app 88 3 (.t 25) (.t 29)),oP 31 (.call 200 [.t 30]),mV 32 9,mV 4 31,mV 5 32,oP 6 (.mv (.c (.bool true)))] .ret)))))
theorem dg181:Dg Tryz.prog 181 Tryz.f181 ic181 [(.t 4),(.t 5),(.t 6)]:=⟨Tryz.func181,by kernel_rfl,by kernel_rfl⟩
theorem c181 (m:List Pair) (a p:Int) (hp:PortsOk m) (hl:m.length≤1000000):FnR Tryz.prog G 181 [.sl 3 (m.map Pair.row),.agg [.int .i64 a,.int .i64 p]]
 (.tup [.sl 3 ((mOut m ⟨a,p⟩).1.map Pair.row),.int .i64 (mOut m ⟨a,p⟩).2.1,.bool (mOut m ⟨a,p⟩).2.2]):=by
 refine mF dg181 Tryz.ntmps181 ?_
 have hp0:∀p∈m,p.port≠0:=fun p h=>(hp p h).1
 have e1:=mOut_found (e:=⟨a,p⟩) hp0
 have e2:=mOut_none (e:=⟨a,p⟩) hp0
 simp only[ic181,go_sem]
 refine callO (c199 (m.map Pair.row) (by simp;omega)) [] 11 1 (by simp only[go_sem];first|done|simp) (by simp) (by rintro _ _ ⟨rfl,rfl⟩;simp) (by intro i hi;obtain rfl:i=0:=(by omega);simp only[go_sem]) ?_
 rintro _ _ ⟨rfl,rfl⟩
 simp only[go_sem]
 with_reducible repeat' (first|refine br ?_ ?_<;>intro h e<;>(try simp only[e,go_sem])<;>clear e|rw[i64w (by omega)]|refine sd ?_<;>try simp only[go_sem]|(first|refine cr (c125 ..) ?_)<;>try simp only[go_sem]|fail)
 all_goals(have hw:IntKind.i64.wrap (10+(m.length:Int))=10+m.length:=i64w (by omega))
 all_goals(try simp only[hw] at h)
 ·rename_i h0
  rw[e2 h0,if_pos (by omega)];exact⟨⟨rfl,rfl⟩,rfl,rfl⟩
 ·rename_i h0
  rw[e2 h0,if_neg (by omega)]
  refine callF (c200 ((m++([⟨10+(m.length:Int),⟨a,p⟩⟩]:List Pair)).map Pair.row)) [1030] true (by simp only[go_sem];first|done|simp[E.row,Pc.row,Pair.row,Part.row,Flw.row,Pk.row,Conv.row]) (by simp only[List.mem_singleton];rintro c rfl;rfl) rfl (.inl rfl) ?_
  simp only[go_sem]
 ·rw[e1 h];exact⟨⟨rfl,rfl⟩,rfl,rfl⟩
def ic224:IC:=sR [oP 5 (.box 128 (.t 1)),oP 8 (.mv (.c .nils)),oP 9 (.mv (.c s0))] (.seq (.block 0 (sR [fD 16 1 5,lD 17 1 16,mV 18 17,⟨some 19,some (18,true),.mv (.t 3)⟩,oP 20 (.pick (.t 18) (.t 19) (.c (.bool false))),mV 21 20,⟨some 22,some (21,true),.fad 2 (.t 5)⟩,⟨some 23,some (21,true),.ld 2 true (.t 22)⟩,⟨some 24,some (21,true),.call 64 [.t 23]⟩,oP 25 (.pick (.t 21) (.t 24) (.c (.bool false))),mV 15 25] (.cond (.t 15) (sR [mV 27 0,fD 28 2 5,lA 29 2 28,oP 30 (.call 181 [.t 27,.t 29]),mV 26 30,eX 31 26 0,eX 32 26 1,eX 33 26 2,mV 10 31,mV 11 32,mV 12 33] (sR [mV 34 12] (.cond (.t 34) (sR [mV 35 10,mV 36 11,oP 37 (.build [i0,i0] [(0,(1,.c (.int .i64 9))),(1,(1,.t 36))]),oP 38 (.call 196 [.t 37]),mV 8 35,mV 9 38] .ret) .skip))) (sR [fD 40 1 5,lD 41 1 40,mV 42 41,⟨some 43,some (42,true),.mv (.t 3)⟩,⟨some 44,some (42,true),.un .not (.t 43)⟩,oP 45 (.pick (.t 42) (.t 44) (.c (.bool false))),mV 46 45,⟨some 47,some (46,true),.fad 2 (.t 5)⟩,⟨some 48,some (46,true),.ld 2 true (.t 47)⟩,⟨some 49,some (46,true),.call 69 [.t 48]⟩,oP 50 (.pick (.t 46) (.t 49) (.c (.bool false))),mV 39 50] (.cond (.t 39) (sR [mV 52 0,fD 53 2 5,fD 54 1 53,lD 55 1 54,oP 56 (.call 184 [.t 52,.t 55]),mV 51 56,eX 57 51 0,eX 58 51 1,oP 13 (.alloc 45 [i0,i0]),nP (.sto 2 (.t 13) (.t 57)),mV 14 58] (sR [mV 59 14] (.cond (.t 59) (sR [mV 60 0,lA 61 2 13,oP 62 (.call 196 [.t 61]),mV 8 60,mV 9 62] .ret) .skip))) .skip))))) (sR [mV 63 0,mV 64 2,mV 8 63,mV 9 64] .ret))
theorem dg224:Dg Tryz.prog 224 Tryz.f224 ic224 [(.t 8),(.t 9)]:=⟨Tryz.func224,by kernel_rfl,by kernel_rfl⟩
theorem c224 (m:List Pair) (n:Nat) (b:Bool) (a p:Int) (s:B) (out:Bool) (hp:PortsOk m) (hl:m.length≤1000000):FnR Tryz.prog G 224 [.sl 3 (m.map Pair.row),.agg [.int .i64 n,.bool b,.int .i64 a,.int .i64 p],.str s,.bool out]
 (.tup [.sl 3 ((turn m ⟨n,b,⟨a,p⟩⟩ s out).1.map Pair.row),.str (turn m ⟨n,b,⟨a,p⟩⟩ s out).2]):=by
 refine mF dg224 Tryz.ntmps224 ?_
 simp only[ic224,go_sem]
 cases b<;>cases out<;>simp only[go_sem]
 all_goals
  repeat' (first
   | (refine callR (c64 ..) rfl rfl ?_;simp only[go_sem])
   | (refine callR (c69 ..) rfl rfl ?_;simp only[go_sem])
   | (with_reducible refine cB (fun h=>?_) (fun h=>?_)<;>simp only[h,go_sem])
   | (refine callR (c181 m a p hp hl) rfl rfl ?_;simp only[go_sem])
   | (refine callR (c184 m p) rfl rfl ?_;simp only[go_sem])
   | (refine callR (c196 ..) rfl rfl ?_;simp only[go_sem]))
 ·simp[turn,pieceIn]
 ·simp[turn,pieceOut]
 ·rename_i h0
  obtain⟨e,he⟩:=Option.isSome_iff_exists.1 h
  simp[turn,pieceIn,h0,he]
 ·rename_i h0
  have:insideOf m p=none:=by simpa using h
  simp[turn,pieceIn,h0,this]
 ·simp[turn,pieceIn,h]
 ·rename_i h0
  rcases hmo:mOut m ⟨a,p⟩ with⟨x,port,ok⟩
  rw[hmo] at h
  simp only at h
  subst h
  simp[turn,pieceOut,h0,hmo]
 ·rename_i h0
  rcases hmo:mOut m ⟨a,p⟩ with⟨x,port,ok⟩
  rw[hmo] at h
  simp only at h
  subst h
  simp[turn,pieceOut,h0,hmo]
 ·simp[turn,pieceOut,h]
def ic173:IC:=sR [oP 2 (.mv (.c .nils))] (sR [oP 3 (.bsl 88 3 []),mV 4 0,oP 5 (.app 88 3 (.t 3) (.t 4)),mV 2 5] .ret)
theorem dg173:Dg Tryz.prog 173 Tryz.f173 ic173 [(.t 2)]:=⟨Tryz.func173,by kernel_rfl,by kernel_rfl⟩
theorem c173 (rows:List (List V)) (hr:rows.length≤2000000):FnP Tryz.prog G 173 0 [] [.sl 3 rows] (fun r o=>r=.own 0 rows.length∧o=[.arr 88 3 rows]):=by
 refine mP dg173 Tryz.ntmps173 ⟨_,_,rfl,rfl⟩ ?_
 simp only[ic173,go_sem]
 with_reducible repeat' (first|refine br ?_ ?_<;>intro h e<;>(try simp only[e,go_sem])<;>clear e|rw[i64w (by omega)]|refine sd ?_<;>try simp only[go_sem]|fail)
 exact retN (.own 0 rows.length) [.arr 88 3 rows] [(0,1005)] (by simp only[go_sem];first|done|simp) ⟨rfl,rfl⟩ (by simp only[go_sem]) (by simp[argH]) (by simp only[go_sem])
def ic214:IC:=sR [oP 4 (.alloc 45 [i0,i0]),oP 5 (.mv (.c (.bool false)))] (sR [mV 7 1,oP 8 (.bin .sub (.t 7) (.c (.int .i64 10))),mV 6 8] (.seq (sR [mV 9 6,mV 10 0,oP 11 (.len (.t 10)),oP 12 (.bin .sub (.t 11) (.c (.int .i64 1))),oP 13 (.call 100 [.t 9,.c i0,.t 12]),oP 14 (.un .not (.t 13))] (.cond (.t 14) (sR [oP 15 (.build [i0,i0] []),nP (.sto 2 (.t 4) (.t 15)),oP 5 (.mv (.c (.bool false)))] .ret) .skip)) (sR [mV 16 0,mV 17 6,oP 18 (.iad 3 (.t 16) (.t 17)),fD 19 1 18,lA 20 2 19,nP (.sto 2 (.t 4) (.t 20)),oP 5 (.mv (.c (.bool true)))] .ret)))
theorem dg214:Dg Tryz.prog 214 Tryz.f214 ic214 [(.cell 4 2 true),(.t 5)]:=⟨Tryz.func214,by kernel_rfl,by kernel_rfl⟩
theorem c214 (m:List Pair) (n:Int) (hm:mapOk m=true) (hn : -1000000≤n∧n≤1000000):FnR Tryz.prog G 214 [.sl 3 (m.map Pair.row),.int .i64 n] (rdV (insideOf m n)):=by
 refine mF dg214 Tryz.ntmps214 ?_
 obtain⟨hp,hl⟩:=mapOk_ports hm
 simp only[ic214,go_sem]
 have hat:=insideOf_at hm n
 with_reducible repeat' (first|refine br ?_ ?_<;>intro h e<;>(try simp only[e,go_sem])<;>clear e|rw[i64w (by omega)]|refine sd ?_<;>try simp only[go_sem]|(first|refine cr (c100 ..) ?_)<;>try simp only[go_sem]|fail)
 ·rw[M.within_iff] at h
  rw[dif_pos (by omega)] at hat
  with_reducible repeat' (first|refine br ?_ ?_<;>intro h e<;>(try simp only[e,go_sem])<;>clear e|rw[i64w (by omega)]|refine sd ?_<;>try simp only[go_sem]|fail)
  have hg:m.getD (n - 10).toNat default=m[(n - 10).toNat]'(by omega):=by simp[List.getD,show(n - 10).toNat<m.length by omega]
  simp only[hg,hat,go_sem]
  exact⟨⟨rfl,rfl⟩,rfl⟩
 ·have:¬(0≤n - 10∧n - 10<m.length):=fun hc=>by
   have:within (n - 10) 0 (m.length - 1)=true:=by rw[M.within_iff];omega
   rw[h] at this;cases this
  rw[dif_neg this] at hat
  rw[hat]
  exact⟨⟨rfl,rfl⟩,rfl⟩
def ic222:IC:=sR [oP 4 (.box 128 (.t 1)),oP 6 (.mv (.c s0))] (.seq (sR [fD 9 1 4,lD 10 1 9,oP 11 (.un .not (.t 10)),mV 12 11,⟨some 13,some (12,false),.fad 2 (.t 4)⟩,⟨some 14,some (12,false),.ld 2 true (.t 13)⟩,⟨some 15,some (12,false),.call 110 [.t 14]⟩,⟨some 16,some (12,false),.un .not (.t 15)⟩,oP 17 (.pick (.t 12) (.c (.bool true)) (.t 16))] (.cond (.t 17) (sR [mV 18 2,mV 6 18] .ret) .skip)) (sR [mV 20 0,fD 21 2 4,fD 22 1 21,lD 23 1 22,oP 24 (.call 214 [.t 20,.t 23]),mV 19 24,eX 25 19 0,eX 26 19 1,oP 7 (.alloc 45 [i0,i0]),nP (.sto 2 (.t 7) (.t 25)),mV 8 26] (.seq (sR [mV 27 8,oP 28 (.un .not (.t 27))] (.cond (.t 28) (sR [mV 29 2,mV 6 29] .ret) .skip)) (sR [lA 30 2 7,oP 31 (.call 37 [.t 30]),oP 32 (.bin .add (.c (.str [64])) (.t 31)),oP 33 (.bin .add (.t 32) (.c (.str [59]))),mV 6 33] .ret))))
theorem dg222:Dg Tryz.prog 222 Tryz.f222 ic222 [(.t 6)]:=⟨Tryz.func222,by kernel_rfl,by kernel_rfl⟩
theorem c222 (m:List Pair) (n:Nat) (b:Bool) (a p:Int) (s:B) (hm:mapOk m=true):FnR Tryz.prog G 222 [.sl 3 (m.map Pair.row),.agg [.int .i64 n,.bool b,.int .i64 a,.int .i64 p],.str s] (.str (pieceIn m ⟨n,b,⟨a,p⟩⟩ s)):=by
 refine mF dg222 Tryz.ntmps222 ?_
 simp only[ic222,go_sem]
 cases b<;>simp only[go_sem]
 ·simp[pieceIn]
 refine callR (c110 ..) rfl rfl ?_
 simp only[go_sem]
 cases hd:E.door ⟨a,p⟩<;>simp only[go_sem]
 ·simp[pieceIn,hd]
 have hd':=hd
 rw[E.door_iff] at hd
 simp only at hd
 refine callR (c214 m p hm (by omega)) rfl rfl ?_
 simp only[go_sem]
 cases hi:insideOf m p with
 | none=>simp only[go_sem,Option.isSome_none];simp[pieceIn,hd',hi]
 | some e =>
   have:=text_le (e:=e)
   simp only[go_sem,Option.isSome_some,Option.getD_some]
   refine callR (c37 e.a e.p) rfl rfl ?_
   simp only[go_sem]
   repeat' (with_reducible refine pureG (by simp;omega) ?_;try simp only[go_sem])
   simp[pieceIn,hd',hi,name]
def outP (m:List Pair) (e:E) (r:V) (o:List Hs):Prop :=
 ((mOut m e).1=m∧r=.tup [.own 0 m.length,.int .i64 (mOut m e).2.1,.bool (mOut m e).2.2]∧o=[.arr 88 3 (m.map Pair.row)]) ∨
 (r=.tup [.own 1 (mOut m e).1.length,.int .i64 (mOut m e).2.1,.bool (mOut m e).2.2]∧o=[.dead,.arr 88 3 ((mOut m e).1.map Pair.row)]∧(mOut m e).2.2=true∧(mOut m e).1≠m)
def ic209:IC:=sR [oP 3 (.box 45 (.t 1)),oP 4 (.mv (.c .nils)),oP 5 (.mv (.c i0)),oP 6 (.mv (.c (.bool false)))] (.seq (sR [oP 7 (.mv (.c i0))] (.block 0 (.loop (.seq (sR [mV 9 7,mV 10 0,oP 11 (.len (.t 10)),bN 12 .lss 9 11] (.cond (.t 12) .skip (.exit 0))) (.seq (.block 1 (.seq (.drw [0,0,3,7,15,0,63] [(0,mV 15 0),(1,mV 16 7),(2,oP 17 (.iad 3 (.t 15) (.t 16))),(3,fD 18 1 17),(4,lA 19 2 18),(5,lA 20 2 3),(6,oP 21 (.eqs false [.i,.i] (.t 19) (.t 20)))]) (.cond (.t 21) (.seq (.drw [0,0,0,6,14,30,1,127,255] [(0,mV 22 0),(1,mV 23 0),(2,mV 24 7),(3,oP 25 (.iad 3 (.t 23) (.t 24))),(4,fD 26 0 25),(5,lD 27 1 26),(6,mV 4 22),(7,mV 5 27),(8,oP 6 (.mv (.c (.bool true))))]) .ret) .skip))) (.reg [mV 13 7,oP 14 (.bin .add (.t 13) (.c (.int .i64 1))),mV 7 14])))))) (.seq (sR [mV 28 0,oP 29 (.len (.t 28)),oP 30 (.bin .gtr (.t 29) (.c (.int .i64 7)))] (.cond (.t 30) (sR [mV 31 0,mV 4 31,oP 5 (.mv (.c i0)),oP 6 (.mv (.c (.bool false)))] .ret) .skip)) (sR [mV 32 0,oP 33 (.len (.t 32)),oP 34 (.bin .add (.c (.int .i64 10)) (.t 33)),mV 8 34] (sR [mV 35 0,mV 36 8,lA 37 2 3,oP 38 (.build [i0,i0,i0] [(0,(1,.t 36)),(1,(2,.t 37))]),oP 39 (.bsl 88 3 [.t 38]),oP 40 (.app 88 3 (.t 35) (.t 39)),mV 41 8,mV 4 40,mV 5 41,oP 6 (.mv (.c (.bool true)))] .ret))))
theorem dg209:Dg Tryz.prog 209 Tryz.f209 ic209 [(.t 4),(.t 5),(.t 6)]:=⟨Tryz.func209,by kernel_rfl,by kernel_rfl⟩
theorem c209 (m:List Pair) (a p:Int) (hp:PortsOk m) (hl:m.length≤1000000):FnP Tryz.prog G 209 1 [.arr 88 3 (m.map Pair.row)] [.own 0 m.length,.agg [.int .i64 a,.int .i64 p]] (outP m ⟨a,p⟩):=by
 refine mP dg209 Tryz.ntmps209 ?_ ?_
 ·by_cases h:(mOut m ⟨a,p⟩).1=m
  ·exact⟨_,_,.inl ⟨h,rfl,rfl⟩⟩
  ·refine⟨_,_,.inr ⟨rfl,rfl, ?_,h⟩⟩
   cases hb:(mOut m ⟨a,p⟩).2.2 with
   | true=>rfl
   | false =>
     exfalso
     apply h
     revert hb
     unfold mOut
     split
     ·simp
     ·split<;>simp
 simp only[ic209,go_sem]
 refine loopN (fun i:Nat=>⟨getL [(0,.own 0 m.length),(3,.pv 1003 0),(7,.int .i64 (i:Int))],getH [(0,.arr 88 3 (m.map Pair.row)),(1003,.var 45 [.int .i64 a,.int .i64 p])]⟩) (fun i=>m.length - i) (fun i=>i≤m.length∧portOf m ⟨a,p⟩=portOf (m.drop i) ⟨a,p⟩) 0 (leQ []) ⟨Nat.zero_le _,by simp⟩ ?_
 intro i ⟨hi,ha⟩
 simp only[go_sem]
 by_cases h:(i:Int)<m.length
 ·have hil:i<m.length:=by omega
  have hg:m.getD i default=m[i]:=by simp[List.getD,hil]
  rw[List.drop_eq_getElem_cons hil,portOf_cons] at ha
  simp only[eq_true h,go_sem]
  with_reducible repeat' (first|refine br ?_ ?_<;>intro h e<;>(try simp only[e,go_sem,getD_mp hil,hg,E.ext_iff'])<;>clear e|rw[i64w (by omega)]|refine sd ?_<;>try simp only[go_sem,getD_mp hil,hg,E.ext_iff']|fail)
  ·rw[if_pos h] at ha
   have hne:portOf m ⟨a,p⟩≠0:=by rw[ha];exact(hp m[i] (List.getElem_mem hil)).1
   have hf:=mOut_found (fun p h=>(hp p h).1) hne
   refine retN (.tup [.own 0 m.length,.int .i64 (mOut m ⟨a,p⟩).2.1,.bool (mOut m ⟨a,p⟩).2.2]) [.arr 88 3 (m.map Pair.row)] [] ?_ (.inl ⟨by rw[hf],rfl,rfl⟩) (by simp only[go_sem]) (by simp[argH]) (by simp only[go_sem];first|done|simp)
   simp only[go_sem,hf,ha]
   try simp
  ·refine⟨i+1,by omega,⟨by omega,by rw[ha,if_neg h]⟩,(leQ [])⟩
 ·simp only[eq_false h,go_sem]
  have:i=m.length:=by omega
  subst this
  rw[List.drop_length,portOf_nil] at ha
  have hf:=mOut_none (fun p h=>(hp p h).1) ha
  with_reducible repeat' (first|refine br ?_ ?_<;>intro h e<;>(try simp only[e,go_sem])<;>clear e|rw[i64w (by omega)]|refine sd ?_<;>try simp only[go_sem]|fail)
  ·rw[if_pos (by omega)] at hf
   refine retN (.tup [.own 0 m.length,.int .i64 (mOut m ⟨a,p⟩).2.1,.bool (mOut m ⟨a,p⟩).2.2]) [.arr 88 3 (m.map Pair.row)] [] ?_ (.inl ⟨by rw[hf],rfl,rfl⟩) (by simp only[go_sem]) (by simp[argH]) (by simp only[go_sem];first|done|simp)
   simp only[go_sem,hf]
   try simp
  ·rw[if_neg (by omega)] at hf
   refine retN (.tup [.own 1 (mOut m ⟨a,p⟩).1.length,.int .i64 (mOut m ⟨a,p⟩).2.1,.bool (mOut m ⟨a,p⟩).2.2]) [.dead,.arr 88 3 ((mOut m ⟨a,p⟩).1.map Pair.row)] [(1,1040)] ?_ (.inr ⟨rfl,rfl,by rw[hf],by rw[hf];simp⟩) ?_ (by simp[argH,getN]) (by simp only[go_sem];first|done|simp)
   ·simp only[go_sem,hf];simp
   ·simp only[go_sem,hf];simp[Pair.row]
def ic221:IC:=sR [oP 4 (.box 128 (.t 1)),oP 6 (.mv (.c .nils)),oP 7 (.mv (.c s0))] (.seq (sR [fD 11 1 4,lD 12 1 11,oP 13 (.un .not (.t 12)),mV 14 13,⟨some 15,some (14,false),.fad 2 (.t 4)⟩,⟨some 16,some (14,false),.ld 2 true (.t 15)⟩,⟨some 17,some (14,false),.call 94 [.t 16]⟩,⟨some 18,some (14,false),.un .not (.t 17)⟩,oP 19 (.pick (.t 14) (.c (.bool true)) (.t 18))] (.cond (.t 19) (sR [mV 20 0,mV 21 2,mV 6 20,mV 7 21] .ret) .skip)) (sR [mV 23 0,fD 24 2 4,lA 25 2 24,oP 26 (.call 209 [.t 23,.t 25]),mV 22 26,eX 27 22 0,eX 28 22 1,eX 29 22 2,mV 8 27,mV 9 28,mV 10 29] (.seq (sR [mV 30 10,oP 31 (.un .not (.t 30))] (.cond (.t 31) (sR [mV 32 0,mV 33 2,mV 6 32,mV 7 33] .ret) .skip)) (sR [mV 34 8,mV 35 9,oP 36 (.build [i0,i0] [(0,(1,.c (.int .i64 9))),(1,(1,.t 35))]),oP 37 (.call 37 [.t 36]),oP 38 (.bin .add (.c (.str [64])) (.t 37)),oP 39 (.bin .add (.t 38) (.c (.str [59]))),mV 6 34,mV 7 39] .ret))))
theorem dg221:Dg Tryz.prog 221 Tryz.f221 ic221 [(.t 6),(.t 7)]:=⟨Tryz.func221,by kernel_rfl,by kernel_rfl⟩
theorem c221 (m:List Pair) (n:Nat) (b:Bool) (a p:Int) (s:B) (hp:PortsOk m) (hl:m.length≤1000000):FnP Tryz.prog G 221 0 [.arr 88 3 (m.map Pair.row)] [.own 0 m.length,.agg [.int .i64 n,.bool b,.int .i64 a,.int .i64 p],.str s]
 (fun r o=>r=.tup [.own 0 (pieceOut m ⟨n,b,⟨a,p⟩⟩ s).1.length,.str (pieceOut m ⟨n,b,⟨a,p⟩⟩ s).2]∧o=[.arr 88 3 ((pieceOut m ⟨n,b,⟨a,p⟩⟩ s).1.map Pair.row)]):=by
 refine mP dg221 Tryz.ntmps221 ⟨_,_,rfl,rfl⟩ ?_
 simp only[ic221,go_sem]
 have keep:∀l mm,pieceOut m ⟨n,b,⟨a,p⟩⟩ s=(m,s)→getL l 6=.own 0 m.length→getL l 7=.str s→getH mm 0=.arr 88 3 (m.map Pair.row) →
  retQ [.t 6,.t 7] 0 (fun r o=>r=.tup [.own 0 (pieceOut m ⟨n,b,⟨a,p⟩⟩ s).1.length,.str (pieceOut m ⟨n,b,⟨a,p⟩⟩ s).2]∧o=[.arr 88 3 ((pieceOut m ⟨n,b,⟨a,p⟩⟩ s).1.map Pair.row)]) .ret ⟨getL l,getH mm⟩:=fun l mm h1 h2 h3 h4=>by
  refine retN _ _ [] ?_ ⟨rfl,rfl⟩ ?_ (by simp[argH]) (by simp only[go_sem])
  ·simp only[go_sem,h1,h2,h3];try simp
  ·simp only[go_sem,h1,h4]
 cases b<;>simp only[go_sem]
 ·exact keep _ _ (by simp[pieceOut]) (by simp only[go_sem]) (by simp only[go_sem]) (by simp only[go_sem])
 refine callR (c94 ..) rfl rfl ?_
 simp only[go_sem]
 cases hi:E.inside ⟨a,p⟩<;>simp only[go_sem]
 ·exact keep _ _ (by simp[pieceOut,hi]) (by simp only[go_sem]) (by simp only[go_sem]) (by simp only[go_sem])
 refine callN (c209 m a p hp hl) [0] [] true 26 2 (by simp only[go_sem];first|done|simp) (by simp only[go_sem];first|done|simp) (by simp) (by simp) (by simp) ?_ ?_ ?_
 ·rintro res out (⟨_,rfl,rfl⟩|⟨rfl,rfl,_⟩)
  ·exact⟨by simp,by simp,.inl rfl,fun i hi=>by obtain rfl:i=0:=(by omega);simp[chH,stepOk]⟩
  ·exact⟨by simp,by simp,.inl rfl,fun i hi=>by obtain rfl:i=0:=(by omega);simp[chH,stepOk]⟩
 ·intro i hi
  have:i=0∨i=1:=by omega
  rcases this with rfl|rfl<;>simp only[go_sem]
 ·rintro res out (⟨h1,rfl,rfl⟩|⟨rfl,rfl,h3,_⟩)
  ·have hpo:∀c,(mOut m ⟨a,p⟩).2.2=c→pieceOut m ⟨n,true,⟨a,p⟩⟩ s=bif c then((mOut m ⟨a,p⟩).1,name ⟨9,(mOut m ⟨a,p⟩).2.1⟩) else(m,s):=fun c hc=>by
    subst hc
    rcases hmo:mOut m ⟨a,p⟩ with⟨x,port,ok⟩
    cases ok<;>simp[pieceOut,hi,hmo]
   simp only[go_sem]
   cases hok:(mOut m ⟨a,p⟩).2.2<;>simp only[go_sem]
   ·exact keep _ _ (by rw[hpo _ hok];rfl) (by simp only[go_sem]) (by simp only[go_sem]) (by simp only[go_sem])
   ·have hpo:=hpo _ hok
    simp only[cond_true,h1] at hpo
    have hlt:=text_le (e:=⟨9,(mOut m ⟨a,p⟩).2.1⟩)
    with_reducible repeat' (first|refine br ?_ ?_<;>intro h e<;>(try simp only[e,go_sem])<;>clear e|rw[i64w (by omega)]|refine sd ?_<;>try simp only[go_sem]|(first|refine cr (c37 ..) ?_)<;>try simp only[go_sem]|fail)
    refine retN _ _ [] ?_ ⟨rfl,rfl⟩ ?_ (by simp[argH]) (by simp only[go_sem])
    ·simp only[go_sem,hpo];simp[name]
    ·simp only[go_sem,hpo]
  ·have hpo:pieceOut m ⟨n,true,⟨a,p⟩⟩ s=((mOut m ⟨a,p⟩).1,name ⟨9,(mOut m ⟨a,p⟩).2.1⟩):=by
    rcases hmo:mOut m ⟨a,p⟩ with⟨x,port,ok⟩
    rw[hmo] at h3
    simp only at h3
    subst h3
    simp[pieceOut,hi,hmo]
   simp only[go_sem,h3]
   have hlt:=text_le (e:=⟨9,(mOut m ⟨a,p⟩).2.1⟩)
   with_reducible repeat' (first|refine br ?_ ?_<;>intro h e<;>(try simp only[e,go_sem])<;>clear e|rw[i64w (by omega)]|refine sd ?_<;>try simp only[go_sem]|(first|refine cr (c37 ..) ?_)<;>try simp only[go_sem]|fail)
   refine retN _ _ [(0,102601)] ?_ ⟨rfl,rfl⟩ ?_ (by simp[argH]) (by simp only[go_sem])
   ·simp only[go_sem,hpo];simp[name]
   ·simp only[go_sem,hpo]
def ic218:IC:=sR [oP 8 (.mv (.c .nils)),oP 9 (.mv (.c .nils))] (sR [mV 15 1,oP 16 (.len (.t 15)),oP 17 (.mks 9 1 (.t 16)),mV 10 17] (.seq (sR [mV 18 1,oP 19 (.len (.t 18)),oP 20 (.mv (.c i0))] (.block 0 (.loop (sR [bN 21 .lss 20 19] (.seq (.cond (.t 21) .skip (.exit 0)) (.seq (.block 1 (sR [oP 22 (.iad 4 (.t 18) (.t 20)),lA 23 4 22,oP 12 (.alloc 128 [i0,.bool false,i0,i0]),nP (.sto 4 (.t 12) (.t 23))] (.seq (.drw [0,0,0,0,8,28,0,127,255,511,511,1023,4095] [(0,mV 25 0),(1,lA 26 4 12),(2,mV 27 2),(3,fD 28 0 12),(4,lD 29 1 28),(5,oP 30 (.sls (.t 27) none (some (.t 29)))),(6,mV 31 3),(7,oP 32 (.call 224 [.t 25,.t 26,.t 30,.t 31])),(8,mV 24 32),(9,eX 33 24 0),(10,eX 34 24 1),(11,mV 13 33),(12,mV 14 34)]) (sR [mV 35 13,mV 0 35] (sR [mV 36 10,mV 37 14,oP 38 (.call 88 [.t 37]),oP 39 (.bsl 9 1 [.t 38]),oP 40 (.app 9 1 (.t 36) (.t 39)),mV 10 40] (.reg [mV 41 2,fD 42 0 12,lD 43 1 42,oP 44 (.sls (.t 41) (some (.t 43)) none),mV 2 44])))))) (.reg [oP 45 (.bin .add (.t 20) (.c (.int .i64 1))),mV 20 45]))))))) (sR [mV 46 0,mV 47 10,mV 8 46,mV 9 47] .ret)))
theorem dg218:Dg Tryz.prog 218 Tryz.f218 ic218 [(.t 8),(.t 9)]:=⟨Tryz.func218,by kernel_rfl,by kernel_rfl⟩
theorem c218 (m:List Pair) (l:List Pc) (s:B) (out:Bool) (hp:PortsOk m) (hm:m.length≤100) (hl:l.length≤1000) (hs:s.length≤1000) (hf:fits l s) :
 FnR Tryz.prog G 218 [.sl 3 (m.map Pair.row),.sl 4 (l.map Pc.row),.str s,.bool out] (.tup [.sl 3 ((turned m l s out).1.map Pair.row),.sl 1 ((turned m l s out).2.map fun x=>[.str x])]):=by
 refine mF dg218 Tryz.ntmps218 ?_
 simp only[ic218,go_sem]
 with_reducible repeat' (first|refine br ?_ ?_<;>intro h e<;>(try simp only[e,go_sem])<;>clear e|rw[i64w (by omega)]|refine sd ?_<;>try simp only[go_sem]|fail)
 refine loopN (fun a:List Pair×B×List B×Nat=>⟨getL [(0,.sl 3 (a.1.map Pair.row)),(2,.str a.2.1),(3,.bool out),(10,.own 1017 a.2.2.1.length),(18,.sl 4 (l.map Pc.row)),(19,.int .i64 l.length),(20,.int .i64 (a.2.2.2:Int))],getH [(1017,.arr 9 1 (a.2.2.1.map fun x=>[.str x]))]⟩)
  (fun a=>l.length - a.2.2.2) (fun a=>a.2.2.2≤l.length∧PortsOk a.1∧a.1.length≤m.length+a.2.2.2∧a.2.1.length≤1000∧a.2.2.1.length=a.2.2.2∧fits (l.drop a.2.2.2) a.2.1 ∧
    turned m l s out=((turned a.1 (l.drop a.2.2.2) a.2.1 out).1,a.2.2.1++(turned a.1 (l.drop a.2.2.2) a.2.1 out).2)) (m,s,[],0)
  (leN [] (by simp only[go_sem];first|done|rfl) (by simp only[go_sem];first|done|rfl) (by simp[getN]) (by simp only[go_sem])) ⟨by simp,hp,by simp,hs,rfl,by simpa using hf,by simp⟩ ?_
 intro⟨mm,ss,ts,i⟩ ⟨h1,h2,h3,h4,h5,h6,h7⟩
 simp only at h1 h2 h3 h4 h5 h6 h7
 simp only[go_sem]
 by_cases h:(i:Int)<l.length
 ·have hil:i<l.length:=by omega
  have hg:l.getD i default=l[i]:=by simp[List.getD,hil]
  rw[List.drop_eq_getElem_cons hil] at h6 h7
  generalize hq:l[i]=q at *
  simp only[eq_true h,go_sem]
  refine effG (by omega) ?_
  simp only[hg,go_sem]
  obtain⟨f1,f2⟩:=h6
  with_reducible repeat' (first|refine br ?_ ?_<;>intro h e<;>(try simp only[e,go_sem])<;>clear e|rw[i64w (by omega)]|refine sd ?_<;>try simp only[go_sem]|fail)
  have ht:=turn_len mm q (ss.take q.size) out
  simp only[List.length_take] at ht
  refine callR (c224 mm q.size q.named q.e.a q.e.p _ out h2 (by omega)) rfl rfl ?_
  simp only[go_sem]
  have h2':=h2.turn q (ss.take q.size) out
  generalize htt:turn mm q (ss.take q.size) out=r at *
  with_reducible repeat' (first|refine br ?_ ?_<;>intro h e<;>(try simp only[e,go_sem])<;>clear e|rw[i64w (by omega)]|refine sd ?_<;>try simp only[go_sem]|(first|refine cr (c88 ..) ?_)<;>try simp only[go_sem]|fail)
  refine⟨(r.1,ss.drop q.size,ts++[r.2],i+1),by simp;omega,⟨by simp;omega,h2',by simp;omega,by simp;omega,by simp;omega,f2, ?_⟩,leN [(1017,1040)] ?_ ?_ (by simp[getN]) (by simp only[go_sem])⟩
  ·rw[h7];simp[turned,htt]
  ·simp only[go_sem];simp
  ·simp only[go_sem];simp
 ·simp only[eq_false h,go_sem]
  have:i=l.length:=by omega
  subst this
  rw[h7]
  simp[turned]
def ic170:IC:=sR [oP 2 (.mv (.c (.bool false)))] (.seq (sR [oP 3 (.mv (.c i0))] (.block 0 (.loop (.seq (sR [mV 5 3,mV 6 0,oP 7 (.len (.t 6)),bN 8 .lss 5 7] (.cond (.t 8) .skip (.exit 0))) (.seq (.block 1 (.seq (sR [mV 11 0,mV 12 3,oP 13 (.iad 3 (.t 11) (.t 12)),fD 14 0 13,lD 15 1 14,mV 16 3,oP 17 (.bin .add (.c (.int .i64 10)) (.t 16)),bN 18 .neq 15 17,mV 19 18,⟨some 20,some (19,false),.mv (.t 0)⟩,⟨some 21,some (19,false),.mv (.t 3)⟩,⟨some 22,some (19,false),.iad 3 (.t 20) (.t 21)⟩,⟨some 23,some (19,false),.fad 1 (.t 22)⟩,⟨some 24,some (19,false),.ld 2 true (.t 23)⟩,⟨some 25,some (19,false),.call 94 [.t 24]⟩,⟨some 26,some (19,false),.un .not (.t 25)⟩,oP 27 (.pick (.t 19) (.c (.bool true)) (.t 26))] (.cond (.t 27) (sR [oP 2 (.mv (.c (.bool false)))] .ret) .skip)) (sR [oP 4 (.mv (.c i0))] (.block 2 (.loop (.seq (sR [mV 28 4,mV 29 3,bN 30 .lss 28 29] (.cond (.t 30) .skip (.exit 2))) (.seq (.block 3 (.seq (.drw [0,0,3,7,15,0,0,96,224,480,1023] [(0,mV 33 0),(1,mV 34 4),(2,oP 35 (.iad 3 (.t 33) (.t 34))),(3,fD 36 1 35),(4,lA 37 2 36),(5,mV 38 0),(6,mV 39 3),(7,oP 40 (.iad 3 (.t 38) (.t 39))),(8,fD 41 1 40),(9,lA 42 2 41),(10,oP 43 (.eqs false [.i,.i] (.t 37) (.t 42)))]) (.cond (.t 43) (sR [oP 2 (.mv (.c (.bool false)))] .ret) .skip))) (.reg [mV 31 4,oP 32 (.bin .add (.t 31) (.c (.int .i64 1))),mV 4 32])))))))) (.reg [mV 9 3,oP 10 (.bin .add (.t 9) (.c (.int .i64 1))),mV 3 10])))))) (sR [mV 44 0,oP 45 (.len (.t 44)),oP 46 (.bin .leq (.t 45) (.c (.int .i64 8))),mV 2 46] .ret))
theorem dg170:Dg Tryz.prog 170 Tryz.f170 ic170 [(.t 2)]:=⟨Tryz.func170,by kernel_rfl,by kernel_rfl⟩
theorem c170 (m:List Pair) (hl:m.length≤2000000:=by omega):FnR Tryz.prog G 170 [.sl 3 (m.map Pair.row)] (.bool (mapOk m)):=by
 refine mF dg170 Tryz.ntmps170 ?_
 simp only[ic170,go_sem]
 refine loopN (fun i:Nat=>⟨getL [(0,.sl 3 (m.map Pair.row)),(3,.int .i64 (i:Int))],getH []⟩) (fun i=>m.length - i) (fun i=>i≤m.length∧∀j,j<i→okPair m j=true) 0 (leQ []) ⟨Nat.zero_le _,by omega⟩ ?_
 intro i ⟨hi,ha⟩
 simp only[go_sem]
 by_cases h:(i:Int)<m.length
 ·simp only[eq_true h,go_sem]
  refine effG (by omega) ?_
  have hil:i<m.length:=by omega
  have hg:m.getD i default=m[i]:=by simp[List.getD,hil]
  have hok:=okPair_i hil
  simp only[hg,go_sem]
  have hw:IntKind.i64.wrap (10+(i:Int))=10+i:=i64w (by omega)
  simp only[hw]
  with_reducible repeat' (first|refine br ?_ ?_<;>intro h e<;>(try simp only[e,go_sem,hg])<;>clear e|rw[i64w (by omega)]|refine sd ?_<;>try simp only[go_sem,hg]|(first|refine cr (c94 ..) ?_)<;>try simp only[go_sem,hg]|fail)
  ·exact mapOk_bad hil (by rw[hok];simp at h;simp[h])
  ·rename_i h1
   have h1':m[i].port=10+(i:Int):=by simpa using h1
   rw[h1',h] at hok
   refine loopN (fun k:Nat=>⟨getL [(0,.sl 3 (m.map Pair.row)),(3,.int .i64 (i:Int)),(4,.int .i64 (k:Int))],getH []⟩) (fun k=>i - k) (fun k=>k≤i∧((m.take k).any fun q=>decide (q.ins=m[i].ins))=false) 0 (leQ []) ⟨Nat.zero_le _,by simp⟩ ?_
   intro k ⟨hk,hka⟩
   simp only[go_sem]
   by_cases hki:(k:Int)<i
   ·have hkl:k<m.length:=by omega
    have hgk:m.getD k default=m[k]:=by simp[List.getD,hkl]
    have hst:((m.take (k+1)).any fun q=>decide (q.ins=m[i].ins))=(((m.take k).any fun q=>decide (q.ins=m[i].ins))||decide (m[k].ins=m[i].ins)):=by
     rw[List.take_add_one,zE hkl]
     simp only[Option.toList_some,List.any_append,List.any_cons,List.any_nil,Bool.or_false]
    simp only[eq_true hki,go_sem,hgk,hg,E.ext_iff']
    with_reducible repeat' (first|refine br ?_ ?_<;>intro h e<;>(try simp only[e,go_sem,hgk,hg,E.ext_iff'])<;>clear e|rw[i64w (by omega)]|refine sd ?_<;>try simp only[go_sem,hgk,hg,E.ext_iff']|fail)
    ·refine mapOk_bad hil ?_
     rw[hok]
     have:((m.take i).any fun q=>decide (q.ins=m[i].ins))=true:=by
      rw[List.any_eq_true]
      refine⟨m[k], ?_,by simpa using h⟩
      rw[List.mem_iff_getElem?]
      exact⟨k,by rw[List.getElem?_take,if_pos (by omega),zE hkl]⟩
     simp[this]
    ·refine⟨k+1,by omega,⟨by omega, ?_⟩,(leQ [])⟩
     rw[hst,hka];simpa using h
   ·simp only[eq_false hki,go_sem]
    have:k=i:=by omega
    subst this
    rw[hka] at hok
    with_reducible repeat' (first|refine br ?_ ?_<;>intro h e<;>(try simp only[e,go_sem])<;>clear e|rw[i64w (by omega)]|refine sd ?_<;>try simp only[go_sem]|fail)
    refine⟨k+1,by omega,⟨by omega,fun j hj=>?_⟩,(leQ [])⟩
    rcases Nat.lt_or_ge j k with hji|hji
    ·exact ha j hji
    ·obtain rfl:j=k:=by omega
     rw[hok];simp
  ·exact mapOk_bad hil (by rw[hok];simp[h])
 ·simp only[eq_false h,go_sem]
  have:i=m.length:=by omega
  subst this
  have:(List.range m.length).all (okPair m)=true:=by
   rw[List.all_eq_true];intro j hj;exact ha j (List.mem_range.1 hj)
  simp only[mapOk,this,Bool.true_and]
  apply decide_eq_decide.2;omega
def ic157:IC:=sR [oP 6 (.mv (.c s0)),oP 7 (.mv (.c (.bool false)))] (.seq (sR [mV 8 1,mV 9 0,oP 10 (.lens (.t 9)),bN 11 .gtr 8 10,mV 12 11,⟨some 13,some (12,false),.mv (.t 1)⟩,⟨some 14,some (12,false),.mv (.t 2)⟩,⟨some 15,some (12,false),.lens (.t 14)⟩,⟨some 16,some (12,false),.bin .add (.t 13) (.t 15)⟩,⟨some 17,some (12,false),.bin .gtr (.t 16) (.c (.int .i64 40))⟩,oP 18 (.pick (.t 12) (.c (.bool true)) (.t 17))] (.cond (.t 18) (sR [mV 19 0,mV 6 19,oP 7 (.mv (.c (.bool false)))] .ret) .skip)) (.seq (sR [mV 20 1,mV 21 2,oP 22 (.lens (.t 21)),bN 23 .add 20 22,mV 24 0,oP 25 (.lens (.t 24)),bN 26 .leq 23 25] (.cond (.t 26) (sR [mV 27 0,mV 6 27,oP 7 (.mv (.c (.bool true)))] .ret) .skip)) (sR [mV 28 0,mV 29 2,mV 30 0,oP 31 (.lens (.t 30)),mV 32 1,bN 33 .sub 31 32,oP 34 (.sls (.t 29) (some (.t 33)) none),bN 35 .add 28 34,mV 6 35,oP 7 (.mv (.c (.bool true)))] .ret)))
theorem dg157:Dg Tryz.prog 157 Tryz.f157 ic157 [(.t 6),(.t 7)]:=⟨Tryz.func157,by kernel_rfl,by kernel_rfl⟩
theorem c157 (came:B) (n:Int) (text:B) (hn:0≤n∧n≤1000) (hc:came.length≤1000) (ht:text.length≤1000):FnR Tryz.prog G 157 [.str came,.int .i64 n,.str text] (.tup [.str (behind came n text).1,.bool (behind came n text).2]):=by
 refine mF dg157 Tryz.ntmps157 ?_
 simp only[ic157,go_sem]
 with_reducible repeat' (first|rw[i64w (by omega)];try simp only[go_sem]|refine br ?_ ?_<;>intro h e<;>(try simp only[e,go_sem])<;>clear e|refine sd ?_<;>try simp only[go_sem]|fail)
 ·have:behind came n text=(came,false):=by
   unfold behind;rw[if_pos (by simp;omega)]
  rw[this];exact⟨rfl,rfl⟩
 ·have:behind came n text=(came,false):=by
   unfold behind;rw[if_pos (by simp;omega)]
  rw[this];exact⟨rfl,rfl⟩
 ·have:behind came n text=(came,true):=by
   unfold behind;rw[if_neg (by simp;omega),if_pos (by omega)]
  rw[this];exact⟨rfl,rfl⟩
 ·refine pureG (by simp;omega) ?_
  simp only[go_sem]
  have:behind came n text=(came++text.drop (came.length - n).toNat,true):=by
   unfold behind;rw[if_neg (by simp;omega),if_neg (by omega)]
  rw[this,List.take_length];exact⟨rfl,rfl⟩
theorem okParts_drop {ps:List Part} {qs:List Pc} {i:Nat} (h:i<ps.length) (hl:ps.length=qs.length):okParts (ps.drop i) (qs.drop i)=(okPart (ps.getD i default) (qs.getD i default)&&okParts (ps.drop (i+1)) (qs.drop (i+1))):=by
 rw[List.drop_eq_getElem_cons h,List.drop_eq_getElem_cons (show i<qs.length by omega)]
 simp[okParts,List.getD,h,show i<qs.length by omega]
theorem okParts_ne:∀ {ps:List Part} {qs:List Pc},ps.length≠qs.length→okParts ps qs=false:=fun {ps qs} h=>by
 cases hc:okParts ps qs with
 | false=>rfl
 | true=>exact absurd (okParts_len hc) h
def ic210:IC:=sR [oP 1 (.box 179 (.t 0)),oP 2 (.mv (.c s0))] (sR [oP 3 (.mv (.c s0))] (.seq (sR [oP 4 (.mv (.c i0))] (.block 0 (.loop (.seq (sR [mV 5 4,fD 6 1 1,lD 7 1 6,oP 8 (.len (.t 7)),bN 9 .lss 5 8] (.cond (.t 9) .skip (.exit 0))) (.seq (.block 1 (.reg [mV 12 3,fD 13 1 1,lD 14 1 13,mV 15 4,oP 16 (.iad 2 (.t 14) (.t 15)),fD 17 1 16,lD 18 1 17,bN 19 .add 12 18,mV 3 19])) (.reg [mV 10 4,oP 11 (.bin .add (.t 10) (.c (.int .i64 1))),mV 4 11])))))) (sR [mV 20 3,mV 2 20] .ret)))
theorem dg210:Dg Tryz.prog 210 Tryz.f210 ic210 [(.t 2)]:=⟨Tryz.func210,by kernel_rfl,by kernel_rfl⟩
theorem c210 (s:Strm) (h:StrB s):FnR Tryz.prog G 210 [.agg [.str s.inn,.sl 2 (s.parts.map Part.row)]] (.str (sOut s)):=by
 refine mF dg210 Tryz.ntmps210 ?_
 obtain⟨h1,h2,h3⟩:=h
 have hol:=outL_le (l:=s.parts) fun p hp=>(h3 p hp).2.2.1
 simp only[ic210,go_sem]
 refine loopN (fun i:Nat=>⟨getL [(1,.pv 1001 0),(3,.str (outL (s.parts.take i))),(4,.int .i64 (i:Int))],getH [(1001,.var 179 [.str s.inn,.sl 2 (s.parts.map Part.row)])]⟩) (fun i=>s.parts.length - i) (fun i=>i≤s.parts.length) 0 (leQ []) (Nat.zero_le _) ?_
 intro i hi
 simp only[go_sem]
 by_cases h:(i:Int)<s.parts.length
 ·have hil:i<s.parts.length:=by omega
  have hst:=outL_step hil
  have ho:=hol i
  have h3':=(h3 _ (List.getElem_mem hil)).2.2.1
  have hg:s.parts.getD i default=s.parts[i]:=by simp[List.getD,hil]
  simp only[eq_true h,go_sem]
  refine effG (by omega) ?_
  simp only[hg,go_sem]
  with_reducible repeat' (first|rw[i64w (by omega)];try simp only[go_sem]|refine br ?_ ?_<;>intro h e<;>(try simp only[e,go_sem])<;>clear e|refine sd ?_<;>try simp only[go_sem]|fail)
  exact⟨i+1,by omega,by omega,leN [] (by simp only[go_sem,hst];omega) (by simp only[go_sem]) (by simp[getN]) (by simp only[go_sem])⟩
 ·simp only[eq_false h,go_sem]
  have:i=s.parts.length:=by omega
  subst this
  rw[List.take_length];rfl
def ic220:IC:=sR [oP 1 (.box 179 (.t 0)),oP 2 (.mv (.c i0))] (sR [oP 3 (.mv (.c i0))] (.seq (sR [oP 4 (.mv (.c i0))] (.block 0 (.loop (.seq (sR [mV 5 4,fD 6 1 1,lD 7 1 6,oP 8 (.len (.t 7)),bN 9 .lss 5 8] (.cond (.t 9) .skip (.exit 0))) (.seq (.block 1 (.reg [mV 12 3,fD 13 1 1,lD 14 1 13,mV 15 4,oP 16 (.iad 2 (.t 14) (.t 15)),fD 17 0 16,lD 18 1 17,bN 19 .add 12 18,mV 3 19])) (.reg [mV 10 4,oP 11 (.bin .add (.t 10) (.c (.int .i64 1))),mV 4 11])))))) (sR [mV 20 3,mV 2 20] .ret)))
theorem dg220:Dg Tryz.prog 220 Tryz.f220 ic220 [(.t 2)]:=⟨Tryz.func220,by kernel_rfl,by kernel_rfl⟩
theorem c220 (s:Strm) (h:StrB s):FnR Tryz.prog G 220 [.agg [.str s.inn,.sl 2 (s.parts.map Part.row)]] (.int .i64 (doneP s.parts)):=by
 refine mF dg220 Tryz.ntmps220 ?_
 obtain⟨h1,h2,h3⟩:=h
 have hol:=doneL_le (l:=s.parts) fun p hp=>(h3 p hp).1.2
 simp only[ic220,go_sem]
 refine loopN (fun i:Nat=>⟨getL [(1,.pv 1001 0),(3,.int .i64 (doneP (s.parts.take i))),(4,.int .i64 (i:Int))],getH [(1001,.var 179 [.str s.inn,.sl 2 (s.parts.map Part.row)])]⟩) (fun i=>s.parts.length - i) (fun i=>i≤s.parts.length) 0 (leQ []) (Nat.zero_le _) ?_
 intro i hi
 simp only[go_sem]
 by_cases h:(i:Int)<s.parts.length
 ·have hil:i<s.parts.length:=by omega
  have hst:=doneL_step hil
  have ho:=hol i
  have h3':=(h3 _ (List.getElem_mem hil)).1
  have hg:s.parts.getD i default=s.parts[i]:=by simp[List.getD,hil]
  simp only[eq_true h,go_sem]
  refine effG (by omega) ?_
  simp only[hg,go_sem]
  with_reducible repeat' (first|rw[i64w (by omega)];try simp only[go_sem]|refine br ?_ ?_<;>intro h e<;>(try simp only[e,go_sem])<;>clear e|refine sd ?_<;>try simp only[go_sem]|fail)
  exact⟨i+1,by omega,by omega,leN [] (by simp only[go_sem,hst];omega) (by simp only[go_sem]) (by simp[getN]) (by simp only[go_sem])⟩
 ·simp only[eq_false h,go_sem]
  have:i=s.parts.length:=by omega
  subst this
  rw[List.take_length]
def ic223:IC:=sR [oP 2 (.box 179 (.t 0)),oP 4 (.mv (.c i0))] (sR [oP 5 (.mv (.c i0))] (.seq (sR [oP 6 (.mv (.c i0))] (.block 0 (.loop (.seq (sR [mV 7 6,fD 8 1 2,lD 9 1 8,oP 10 (.len (.t 9)),bN 11 .lss 7 10,mV 12 11,⟨some 13,some (12,true),.fad 1 (.t 2)⟩,⟨some 14,some (12,true),.ld 1 false (.t 13)⟩,⟨some 15,some (12,true),.mv (.t 6)⟩,⟨some 16,some (12,true),.iad 2 (.t 14) (.t 15)⟩,⟨some 17,some (12,true),.fad 0 (.t 16)⟩,⟨some 18,some (12,true),.ld 1 false (.t 17)⟩,⟨some 19,some (12,true),.mv (.t 1)⟩,⟨some 20,some (12,true),.bin .leq (.t 18) (.t 19)⟩,oP 21 (.pick (.t 12) (.t 20) (.c (.bool false)))] (.cond (.t 21) .skip (.exit 0))) (.seq (.block 1 (sR [mV 24 1,fD 25 1 2,lD 26 1 25,mV 27 6,oP 28 (.iad 2 (.t 26) (.t 27)),fD 29 0 28,lD 30 1 29,bN 31 .sub 24 30,mV 1 31] (.reg [mV 32 5,fD 33 1 2,lD 34 1 33,mV 35 6,oP 36 (.iad 2 (.t 34) (.t 35)),fD 37 1 36,lD 38 1 37,oP 39 (.lens (.t 38)),bN 40 .add 32 39,mV 5 40]))) (.reg [mV 22 6,oP 23 (.bin .add (.t 22) (.c (.int .i64 1))),mV 6 23])))))) (sR [mV 41 5,mV 4 41] .ret)))
theorem dg223:Dg Tryz.prog 223 Tryz.f223 ic223 [(.t 4)]:=⟨Tryz.func223,by kernel_rfl,by kernel_rfl⟩
theorem c223 (s:Strm) (n:Int) (h:StrB s) (hn : -10000≤n∧n≤10000):FnR Tryz.prog G 223 [.agg [.str s.inn,.sl 2 (s.parts.map Part.row)],.int .i64 n] (.int .i64 (forP s.parts n)):=by
 refine mF dg223 Tryz.ntmps223 ?_
 obtain⟨h1,h2,h3⟩:=h
 simp only[ic223,go_sem]
 refine loopN (fun a:Nat×Int×Int=>⟨getL [(1,.int .i64 a.2.1),(2,.pv 1002 0),(5,.int .i64 a.2.2),(6,.int .i64 (a.1:Int))],getH [(1002,.var 179 [.str s.inn,.sl 2 (s.parts.map Part.row)])]⟩) (fun a=>s.parts.length - a.1)
  (fun a=>a.1≤s.parts.length∧forP s.parts n=a.2.2+forP (s.parts.drop a.1) a.2.1∧(-20000≤a.2.1∧a.2.1≤10000) ∧ -10000 - 6*a.1≤a.2.1∧0≤a.2.2∧a.2.2≤6*a.1) (0,n,0) (leQ []) ⟨Nat.zero_le _,by simp,⟨by simp;omega,by simp;omega⟩,by simp;omega,by simp,by simp⟩ ?_
 intro⟨i,x,y⟩ ⟨hi,ha,hx,hx2,hy,hy2⟩
 simp only at hi ha hx hx2 hy hy2
 simp only[go_sem]
 by_cases h:(i:Int)<s.parts.length
 ·have hil:i<s.parts.length:=by omega
  have h3':=h3 _ (List.getElem_mem hil)
  have hg:s.parts.getD i default=s.parts[i]:=by simp[List.getD,hil]
  rw[List.drop_eq_getElem_cons hil] at ha
  simp only[forP] at ha
  simp only[eq_true h,go_sem]
  refine effG (by omega) ?_
  simp only[hg,go_sem]
  with_reducible repeat' (first|rw[i64w (by omega)];try simp only[go_sem,hg]|refine br ?_ ?_<;>intro h e<;>(try simp only[e,go_sem,hg])<;>clear e|refine sd ?_<;>try simp only[go_sem,hg]|fail)
  ·rw[if_pos h] at ha
   exact⟨(i+1,x - s.parts[i].size,y+s.parts[i].text.length),by simp;omega,⟨by simp;omega,by simp only;rw[ha];omega,by simp only;omega,by simp only;omega,by simp only;omega,by simp only;omega⟩,(leQ [])⟩
  ·rw[if_neg h] at ha
   rw[ha];omega
 ·simp only[eq_false h,go_sem]
  have:i=s.parts.length:=by omega
  subst this
  rw[ha,List.drop_length];simp[forP]
def ic211:IC:=sR [oP 2 (.box 179 (.t 0)),oP 4 (.mv (.c i0))] (sR [oP 5 (.mv (.c i0))] (.seq (sR [oP 6 (.mv (.c i0))] (.block 0 (.loop (.seq (sR [mV 7 6,fD 8 1 2,lD 9 1 8,oP 10 (.len (.t 9)),bN 11 .lss 7 10,mV 12 11,⟨some 13,some (12,true),.fad 1 (.t 2)⟩,⟨some 14,some (12,true),.ld 1 false (.t 13)⟩,⟨some 15,some (12,true),.mv (.t 6)⟩,⟨some 16,some (12,true),.iad 2 (.t 14) (.t 15)⟩,⟨some 17,some (12,true),.fad 1 (.t 16)⟩,⟨some 18,some (12,true),.ld 1 false (.t 17)⟩,⟨some 19,some (12,true),.lens (.t 18)⟩,⟨some 20,some (12,true),.mv (.t 1)⟩,⟨some 21,some (12,true),.bin .leq (.t 19) (.t 20)⟩,oP 22 (.pick (.t 12) (.t 21) (.c (.bool false)))] (.cond (.t 22) .skip (.exit 0))) (.seq (.block 1 (sR [mV 25 1,fD 26 1 2,lD 27 1 26,mV 28 6,oP 29 (.iad 2 (.t 27) (.t 28)),fD 30 1 29,lD 31 1 30,oP 32 (.lens (.t 31)),bN 33 .sub 25 32,mV 1 33] (.reg [mV 34 5,fD 35 1 2,lD 36 1 35,mV 37 6,oP 38 (.iad 2 (.t 36) (.t 37)),fD 39 0 38,lD 40 1 39,bN 41 .add 34 40,mV 5 41]))) (.reg [mV 23 6,oP 24 (.bin .add (.t 23) (.c (.int .i64 1))),mV 6 24])))))) (sR [mV 42 5,mV 4 42] .ret)))
theorem dg211:Dg Tryz.prog 211 Tryz.f211 ic211 [(.t 4)]:=⟨Tryz.func211,by kernel_rfl,by kernel_rfl⟩
theorem c211 (s:Strm) (n:Int) (h:StrB s) (hn : -10000≤n∧n≤10000):FnR Tryz.prog G 211 [.agg [.str s.inn,.sl 2 (s.parts.map Part.row)],.int .i64 n] (.int .i64 (backP s.parts n)):=by
 refine mF dg211 Tryz.ntmps211 ?_
 obtain⟨h1,h2,h3⟩:=h
 simp only[ic211,go_sem]
 refine loopN (fun a:Nat×Int×Int=>⟨getL [(1,.int .i64 a.2.1),(2,.pv 1002 0),(5,.int .i64 a.2.2),(6,.int .i64 (a.1:Int))],getH [(1002,.var 179 [.str s.inn,.sl 2 (s.parts.map Part.row)])]⟩) (fun a=>s.parts.length - a.1)
  (fun a=>a.1≤s.parts.length∧backP s.parts n=a.2.2+backP (s.parts.drop a.1) a.2.1∧(-20000≤a.2.1∧a.2.1≤10000) ∧ -10000 - 6*a.1≤a.2.1∧0≤a.2.2∧a.2.2≤6*a.1) (0,n,0) (leQ []) ⟨Nat.zero_le _,by simp,⟨by simp;omega,by simp;omega⟩,by simp;omega,by simp,by simp⟩ ?_
 intro⟨i,x,y⟩ ⟨hi,ha,hx,hx2,hy,hy2⟩
 simp only at hi ha hx hx2 hy hy2
 simp only[go_sem]
 by_cases h:(i:Int)<s.parts.length
 ·have hil:i<s.parts.length:=by omega
  have h3':=h3 _ (List.getElem_mem hil)
  have hg:s.parts.getD i default=s.parts[i]:=by simp[List.getD,hil]
  rw[List.drop_eq_getElem_cons hil] at ha
  simp only[backP] at ha
  simp only[eq_true h,go_sem]
  refine effG (by omega) ?_
  simp only[hg,go_sem]
  with_reducible repeat' (first|rw[i64w (by omega)];try simp only[go_sem,hg]|refine br ?_ ?_<;>intro h e<;>(try simp only[e,go_sem,hg])<;>clear e|refine sd ?_<;>try simp only[go_sem,hg]|fail)
  ·rw[if_pos h] at ha
   exact⟨(i+1,x - s.parts[i].text.length,y+s.parts[i].size),by simp;omega,⟨by simp;omega,by simp only;rw[ha];omega,by simp only;omega,by simp only;omega,by simp only;omega,by simp only;omega⟩,(leQ [])⟩
  ·rw[if_neg h] at ha
   rw[ha];omega
 ·simp only[eq_false h,go_sem]
  have:i=s.parts.length:=by omega
  subst this
  rw[ha,List.drop_length];simp[backP]
def ic204:IC:=sR [oP 2 (.box 179 (.t 0)),oP 4 (.mv (.c i0))] (sR [oP 5 (.mv (.c i0))] (.seq (sR [fD 8 1 2,lD 9 1 8,oP 10 (.len (.t 9)),oP 11 (.mv (.c i0))] (.block 0 (.loop (sR [bN 12 .lss 11 10] (.seq (.cond (.t 12) .skip (.exit 0)) (.seq (.block 1 (sR [oP 13 (.iad 2 (.t 9) (.t 11)),lA 14 2 13,oP 7 (.alloc 204 [i0,s0]),nP (.sto 2 (.t 7) (.t 14))] (.seq (sR [mV 15 1,fD 16 0 7,lD 17 1 16,bN 18 .sub 15 17,mV 1 18] (sR [mV 19 1,oP 20 (.bin .lss (.t 19) (.c i0))] (.cond (.t 20) (.exit 0) .skip))) (.reg [mV 21 5,fD 22 1 7,lD 23 1 22,oP 24 (.lens (.t 23)),bN 25 .add 21 24,mV 5 25])))) (.reg [oP 26 (.bin .add (.t 11) (.c (.int .i64 1))),mV 11 26]))))))) (sR [mV 27 5,mV 4 27] .ret)))
theorem dg204:Dg Tryz.prog 204 Tryz.f204 ic204 [(.t 4)]:=⟨Tryz.func204,by kernel_rfl,by kernel_rfl⟩
theorem c204 (s:Strm) (n:Int) (h:StrB s) (hn : -10000≤n∧n≤10000):FnR Tryz.prog G 204 [.agg [.str s.inn,.sl 2 (s.parts.map Part.row)],.int .i64 n] (.int .i64 (forP s.parts n)):=by
 refine mF dg204 Tryz.ntmps204 ?_
 obtain⟨h1,h2,h3⟩:=h
 simp only[ic204,go_sem]
 refine loopN (fun a:Nat×Int×Int=>⟨getL [(1,.int .i64 a.2.1),(5,.int .i64 a.2.2),(9,.sl 2 (s.parts.map Part.row)),(10,.int .i64 s.parts.length),(11,.int .i64 (a.1:Int))],getH []⟩) (fun a=>s.parts.length - a.1)
  (fun a=>a.1≤s.parts.length∧forP s.parts n=a.2.2+forP (s.parts.drop a.1) a.2.1∧(-20000≤a.2.1∧a.2.1≤10000) ∧ -10000 - 6*a.1≤a.2.1∧0≤a.2.2∧a.2.2≤6*a.1) (0,n,0) (leQ []) ⟨Nat.zero_le _,by simp,⟨by simp;omega,by simp;omega⟩,by simp;omega,by simp,by simp⟩ ?_
 intro⟨i,x,y⟩ ⟨hi,ha,hx,hx2,hy,hy2⟩
 simp only at hi ha hx hx2 hy hy2
 simp only[go_sem]
 by_cases h:(i:Int)<s.parts.length
 ·have hil:i<s.parts.length:=by omega
  have h3':=h3 _ (List.getElem_mem hil)
  have hg:s.parts.getD i default=s.parts[i]:=by simp[List.getD,hil]
  rw[List.drop_eq_getElem_cons hil] at ha
  simp only[forP] at ha
  simp only[eq_true h,go_sem]
  refine effG (by omega) ?_
  simp only[hg,go_sem]
  with_reducible repeat' (first|rw[i64w (by omega)];try simp only[go_sem,hg]|refine br ?_ ?_<;>intro h e<;>(try simp only[e,go_sem,hg])<;>clear e|refine sd ?_<;>try simp only[go_sem,hg]|fail)
  ·rw[if_neg (by omega)] at ha
   rw[ha];omega
  ·rw[if_pos (by omega)] at ha
   exact⟨(i+1,x - s.parts[i].size,y+s.parts[i].text.length),by simp;omega,⟨by simp;omega,by simp only;rw[ha];omega,by simp only;omega,by simp only;omega,by simp only;omega,by simp only;omega⟩,(leQ [])⟩
 ·simp only[eq_false h,go_sem]
  have:i=s.parts.length:=by omega
  subst this
  rw[ha,List.drop_length];simp[forP]
def ic202:IC:=sR [oP 2 (.box 179 (.t 0)),oP 4 (.mv (.c i0))] (sR [oP 5 (.mv (.c i0))] (.seq (sR [fD 8 1 2,lD 9 1 8,oP 10 (.len (.t 9)),oP 11 (.mv (.c i0))] (.block 0 (.loop (sR [bN 12 .lss 11 10] (.seq (.cond (.t 12) .skip (.exit 0)) (.seq (.block 1 (sR [oP 13 (.iad 2 (.t 9) (.t 11)),lA 14 2 13,oP 7 (.alloc 204 [i0,s0]),nP (.sto 2 (.t 7) (.t 14))] (.seq (sR [mV 15 1,fD 16 1 7,lD 17 1 16,oP 18 (.lens (.t 17)),bN 19 .sub 15 18,mV 1 19] (sR [mV 20 1,oP 21 (.bin .lss (.t 20) (.c i0))] (.cond (.t 21) (.exit 0) .skip))) (.reg [mV 22 5,fD 23 0 7,lD 24 1 23,bN 25 .add 22 24,mV 5 25])))) (.reg [oP 26 (.bin .add (.t 11) (.c (.int .i64 1))),mV 11 26]))))))) (sR [mV 27 5,mV 4 27] .ret)))
theorem dg202:Dg Tryz.prog 202 Tryz.f202 ic202 [(.t 4)]:=⟨Tryz.func202,by kernel_rfl,by kernel_rfl⟩
theorem c202 (s:Strm) (n:Int) (h:StrB s) (hn : -10000≤n∧n≤10000):FnR Tryz.prog G 202 [.agg [.str s.inn,.sl 2 (s.parts.map Part.row)],.int .i64 n] (.int .i64 (backP s.parts n)):=by
 refine mF dg202 Tryz.ntmps202 ?_
 obtain⟨h1,h2,h3⟩:=h
 simp only[ic202,go_sem]
 refine loopN (fun a:Nat×Int×Int=>⟨getL [(1,.int .i64 a.2.1),(5,.int .i64 a.2.2),(9,.sl 2 (s.parts.map Part.row)),(10,.int .i64 s.parts.length),(11,.int .i64 (a.1:Int))],getH []⟩) (fun a=>s.parts.length - a.1)
  (fun a=>a.1≤s.parts.length∧backP s.parts n=a.2.2+backP (s.parts.drop a.1) a.2.1∧(-20000≤a.2.1∧a.2.1≤10000) ∧ -10000 - 6*a.1≤a.2.1∧0≤a.2.2∧a.2.2≤6*a.1) (0,n,0) (leQ []) ⟨Nat.zero_le _,by simp,⟨by simp;omega,by simp;omega⟩,by simp;omega,by simp,by simp⟩ ?_
 intro⟨i,x,y⟩ ⟨hi,ha,hx,hx2,hy,hy2⟩
 simp only at hi ha hx hx2 hy hy2
 simp only[go_sem]
 by_cases h:(i:Int)<s.parts.length
 ·have hil:i<s.parts.length:=by omega
  have h3':=h3 _ (List.getElem_mem hil)
  have hg:s.parts.getD i default=s.parts[i]:=by simp[List.getD,hil]
  rw[List.drop_eq_getElem_cons hil] at ha
  simp only[backP] at ha
  simp only[eq_true h,go_sem]
  refine effG (by omega) ?_
  simp only[hg,go_sem]
  with_reducible repeat' (first|rw[i64w (by omega)];try simp only[go_sem,hg]|refine br ?_ ?_<;>intro h e<;>(try simp only[e,go_sem,hg])<;>clear e|refine sd ?_<;>try simp only[go_sem,hg]|fail)
  ·rw[if_neg (by omega)] at ha
   rw[ha];omega
  ·rw[if_pos (by omega)] at ha
   exact⟨(i+1,x - s.parts[i].text.length,y+s.parts[i].size),by simp;omega,⟨by simp;omega,by simp only;rw[ha];omega,by simp only;omega,by simp only;omega,by simp only;omega,by simp only;omega⟩,(leQ [])⟩
 ·simp only[eq_false h,go_sem]
  have:i=s.parts.length:=by omega
  subst this
  rw[ha,List.drop_length];simp[backP]
def ic174:IC:=sR [oP 1 (.box 179 (.t 0)),oP 2 (.alloc 179 [s0,.nils])] (.seq (.drw [0,1,0,0,8,28,63,127] [(0,fD 3 0 1),(1,lD 4 1 3),(2,oP 5 (.bsl 204 2 [])),(3,fD 6 1 1),(4,lD 7 1 6),(5,oP 8 (.app 204 2 (.t 5) (.t 7))),(6,oP 9 (.build [s0,.nils] [(0,(1,.t 4)),(1,(1,.t 8))])),(7,nP (.sto 2 (.t 2) (.t 9)))]) .ret)
theorem dg174:Dg Tryz.prog 174 Tryz.f174 ic174 [(.cell 2 2 true)]:=⟨Tryz.func174,by kernel_rfl,by kernel_rfl⟩
theorem c174 (t:B) (rows:List (List V)) (hr:rows.length≤2000000):FnR Tryz.prog G 174 [.agg [.str t,.sl 2 rows]] (.agg [.str t,.sl 2 rows]):=by
 refine mF dg174 Tryz.ntmps174 ?_
 simp only[ic174,go_sem]
 with_reducible repeat' (first|refine br ?_ ?_<;>intro h e<;>(try simp only[e,go_sem])<;>clear e|rw[i64w (by omega)]|refine sd ?_<;>try simp only[go_sem]|fail)
def ic171:IC:=sR [oP 1 (.box 179 (.t 0)),oP 2 (.mv (.c (.bool false)))] (sR [fD 5 0 1,lD 6 1 5,oP 7 (.call 169 [.t 6]),mV 3 7] (.seq (sR [fD 8 0 1,lD 9 1 8,oP 10 (.call 109 [.t 9]),oP 11 (.un .not (.t 10)),mV 12 11,⟨some 13,some (12,false),.mv (.t 3)⟩,⟨some 14,some (12,false),.len (.t 13)⟩,⟨some 15,some (12,false),.fad 1 (.t 1)⟩,⟨some 16,some (12,false),.ld 1 false (.t 15)⟩,⟨some 17,some (12,false),.len (.t 16)⟩,⟨some 18,some (12,false),.bin .neq (.t 14) (.t 17)⟩,oP 19 (.pick (.t 12) (.c (.bool true)) (.t 18))] (.cond (.t 19) (sR [oP 2 (.mv (.c (.bool false)))] .ret) .skip)) (.seq (sR [oP 4 (.mv (.c i0))] (.block 0 (.loop (.seq (sR [mV 20 4,mV 21 3,oP 22 (.len (.t 21)),bN 23 .lss 20 22] (.cond (.t 23) .skip (.exit 0))) (.seq (.block 1 (.seq (.drw [0,1,0,7,15,31,0,0,192,448,960,2047,4095,8191,16383,8191,65535,131071,262143,524287,1048575,2097151,4194303,8388607,16777215,8388607,67108863,134217727,268435455,536870911,1073741823,2147483647,4294967295,8589934591,4294967295,34359738367,68719476735,137438953471,274877906943,549755813887,1099511627775] [(0,fD 26 1 1),(1,lD 27 1 26),(2,mV 28 4),(3,oP 29 (.iad 2 (.t 27) (.t 28))),(4,fD 30 0 29),(5,lD 31 1 30),(6,mV 32 3),(7,mV 33 4),(8,oP 34 (.iad 4 (.t 32) (.t 33))),(9,fD 35 0 34),(10,lD 36 1 35),(11,bN 37 .neq 31 36),(12,mV 38 37),(13,⟨some 39,some (38,false),.fad 1 (.t 1)⟩),(14,⟨some 40,some (38,false),.ld 1 false (.t 39)⟩),(15,⟨some 41,some (38,false),.mv (.t 4)⟩),(16,⟨some 42,some (38,false),.iad 2 (.t 40) (.t 41)⟩),(17,⟨some 43,some (38,false),.fad 1 (.t 42)⟩),(18,⟨some 44,some (38,false),.ld 1 false (.t 43)⟩),(19,⟨some 45,some (38,false),.lens (.t 44)⟩),(20,⟨some 46,some (38,false),.bin .gtr (.t 45) (.c (.int .i64 6))⟩),(21,oP 47 (.pick (.t 38) (.c (.bool true)) (.t 46))),(22,mV 48 47),(23,⟨some 49,some (48,false),.fad 1 (.t 1)⟩),(24,⟨some 50,some (48,false),.ld 1 false (.t 49)⟩),(25,⟨some 51,some (48,false),.mv (.t 4)⟩),(26,⟨some 52,some (48,false),.iad 2 (.t 50) (.t 51)⟩),(27,⟨some 53,some (48,false),.fad 1 (.t 52)⟩),(28,⟨some 54,some (48,false),.ld 1 false (.t 53)⟩),(29,⟨some 55,some (48,false),.bin .eql (.t 54) (.c s0)⟩),(30,oP 56 (.pick (.t 48) (.c (.bool true)) (.t 55))),(31,mV 57 56),(32,⟨some 58,some (57,false),.fad 1 (.t 1)⟩),(33,⟨some 59,some (57,false),.ld 1 false (.t 58)⟩),(34,⟨some 60,some (57,false),.mv (.t 4)⟩),(35,⟨some 61,some (57,false),.iad 2 (.t 59) (.t 60)⟩),(36,⟨some 62,some (57,false),.fad 1 (.t 61)⟩),(37,⟨some 63,some (57,false),.ld 1 false (.t 62)⟩),(38,⟨some 64,some (57,false),.call 109 [.t 63]⟩),(39,⟨some 65,some (57,false),.un .not (.t 64)⟩),(40,oP 66 (.pick (.t 57) (.c (.bool true)) (.t 65)))]) (.cond (.t 66) (sR [oP 2 (.mv (.c (.bool false)))] .ret) .skip))) (.reg [mV 24 4,oP 25 (.bin .add (.t 24) (.c (.int .i64 1))),mV 4 25])))))) (sR [oP 2 (.mv (.c (.bool true)))] .ret))))
theorem dg171:Dg Tryz.prog 171 Tryz.f171 ic171 [(.t 2)]:=⟨Tryz.func171,by kernel_rfl,by kernel_rfl⟩
theorem c171 (s:Strm) (h:SB s):FnR Tryz.prog G 171 [.agg [.str s.inn,.sl 2 (s.parts.map Part.row)]] (.bool (strmOk s)):=by
 refine mF dg171 Tryz.ntmps171 ?_
 obtain⟨h1,h2,h3⟩:=h
 simp only[ic171,go_sem]
 have hp:=textPieces_len s.inn
 have hpe:txOk s.inn=true→textPieces s.inn=pieces s.inn:=fun h=>by simp[textPieces,h]
 refine callR (c169 s.inn) rfl rfl ?_
 simp only[go_sem]
 refine callR (c109 s.inn) rfl rfl ?_
 simp only[go_sem]
 cases ht:txOk s.inn<;>simp only[go_sem]
 ·simp[strmOk,ht]
 have hpe:=hpe ht
 rw[hpe] at hp ⊢
 generalize hq:pieces s.inn=q at *
 have hso:strmOk s=okParts s.parts q:=by simp[strmOk,ht,hq]
 with_reducible repeat' (first|refine br ?_ ?_<;>intro h e<;>(try simp only[e,go_sem])<;>clear e|rw[i64w (by omega)]|refine sd ?_<;>try simp only[go_sem]|fail)
 ·have hlen:s.parts.length=q.length:=by omega
  refine loopN (fun i:Nat=>⟨getL [(1,.pv 1001 0),(3,.sl 4 (q.map Pc.row)),(4,.int .i64 (i:Int))],getH [(1001,.var 179 [.str s.inn,.sl 2 (s.parts.map Part.row)])]⟩) (fun i=>q.length - i) (fun i=>i≤q.length∧okParts s.parts q=okParts (s.parts.drop i) (q.drop i)) 0 (leQ []) ⟨Nat.zero_le _,by simp⟩ ?_
  intro i ⟨hi,ha⟩
  simp only[go_sem]
  by_cases hil:(i:Int)<q.length
  ·have hst:=okParts_drop (show i<s.parts.length by omega) hlen
   have htx:(s.parts.getD i default).text.length≤2000000:=by
    have:s.parts.getD i default=s.parts[i]'(by omega):=by simp[List.getD,show i<s.parts.length by omega]
    rw[this];exact h3 _ (List.getElem_mem _)
   simp only[eq_true hil,go_sem]
   with_reducible repeat' (first|rw[i64w (by omega)];try simp only[go_sem]|refine br ?_ ?_<;>intro h e<;>(try simp only[e,go_sem])<;>clear e|refine sd ?_<;>try simp only[go_sem]|(first|refine cr (c109 ..) ?_)<;>try simp only[go_sem]|fail)
   ·rw[hso,ha,hst]
    cases hok:okPart (s.parts.getD i default) (q.getD i default) with
    | false=>rfl
    | true=>have:=(okPart_iff.1 hok).1;rw[this] at h;simp at h
   ·rw[hso,ha,hst]
    cases hok:okPart (s.parts.getD i default) (q.getD i default) with
    | false=>rfl
    | true=>have:=(okPart_iff.1 hok).2.1;omega
   ·rw[hso,ha,hst]
    cases hok:okPart (s.parts.getD i default) (q.getD i default) with
    | false=>rfl
    | true=>have:=(okPart_iff.1 hok).2.1;rw[h] at this;simp at this
   ·refine⟨i+1,by omega,⟨by omega, ?_⟩,(leQ [])⟩
    rename_i g1 g2 g3
    have hok:okPart (s.parts.getD i default) (q.getD i default)=true:=okPart_iff.2 ⟨by simpa using g1,⟨List.length_pos_iff.2 g3,by omega⟩,h⟩
    rw[ha,hst,hok,Bool.true_and]
   ·rw[hso,ha,hst]
    cases hok:okPart (s.parts.getD i default) (q.getD i default) with
    | false=>rfl
    | true=>have:=(okPart_iff.1 hok).2.2;rw[this] at h;cases h
  ·simp only[eq_false hil,go_sem]
   have:i=q.length:=by omega
   subst this
   rw[hso,ha,List.drop_length,←hlen,List.drop_length];rfl
 ·rw[hso,okParts_ne (by omega)]
def rdH (code:B) (p:Int):Hs:=.var 66 [.sl 1 (code.map byR),.int .i64 p]
def rdQ (code:B) (p c:Int) (Q:V→Prop) (r:V) (o:List Hs):Prop:=∃p':Int,p≤p'∧p'≤p+c∧o=[rdH code p']∧Q r
theorem xor_nn {a b:Int} (ha:0≤a∧a<1099511627776) (hb:0≤b∧b<1099511627776):0≤bits .xor .i64 a b:=by
 obtain⟨x,rfl⟩:=Int.eq_ofNat_of_zero_le ha.1
 obtain⟨y,rfl⟩:=Int.eq_ofNat_of_zero_le hb.1
 have hx:x<2^40:=by omega
 have hy:y<2^40:=by omega
 have hz:=Nat.xor_lt_two_pow hx hy
 unfold bits
 simp only[BitVec.toNat_xor,BitVec.toNat_ofInt]
 have e1:((x:Int) % (2^IntKind.i64.bits:Nat)).toNat=x:=by
  rw[show(2^IntKind.i64.bits:Nat)=18446744073709551616 from rfl];omega
 have e2:((y:Int) % (2^IntKind.i64.bits:Nat)).toNat=y:=by
  rw[show(2^IntKind.i64.bits:Nat)=18446744073709551616 from rfl];omega
 rw[e1,e2,i64w (by omega)]
 omega
def ic18:IC:=sR [oP 4 (.mv (.c i0))] (sR [mV 7 0,mV 8 0,oP 9 (.nilc (.t 8)),fD 10 1 9,lD 11 1 10,oP 12 (.bin .add (.t 11) (.c (.int .i64 1))),oP 13 (.nilc (.t 7)),fD 14 1 13,nP (.sto 1 (.t 14) (.t 12))] (.seq (sR [mV 15 1,oP 16 (.bin .lss (.t 15) (.c (.int .i64 1))),mV 17 16,⟨some 18,some (17,false),.mv (.t 0)⟩,⟨some 19,some (17,false),.nilc (.t 18)⟩,⟨some 20,some (17,false),.fad 0 (.t 19)⟩,⟨some 21,some (17,false),.ld 1 false (.t 20)⟩,⟨some 22,some (17,false),.len (.t 21)⟩,⟨some 23,some (17,false),.bin .eql (.t 22) (.c i0)⟩,oP 24 (.pick (.t 17) (.c (.bool true)) (.t 23))] (.cond (.t 24) (sR [oP 4 (.mv (.c i0))] .ret) .skip)) (sR [mV 25 0,oP 26 (.nilc (.t 25)),fD 27 1 26,lD 28 1 27,oP 29 (.bin .sub (.t 28) (.c (.int .i64 1))),mV 5 29] (.seq (sR [mV 30 5,mV 31 0,oP 32 (.nilc (.t 31)),fD 33 0 32,lD 34 1 33,oP 35 (.len (.t 34)),bN 36 .lss 30 35] (.cond (.t 36) (sR [mV 37 0,oP 38 (.nilc (.t 37)),fD 39 0 38,lD 40 1 39,mV 41 5,oP 42 (.iad 1 (.t 40) (.t 41)),lD 43 1 42,oP 44 (.cvi .i64 (.t 43)),mV 45 1,bN 46 .rem 44 45,mV 4 46] .ret) .skip)) (.seq (.drw [0,1,3,7,0,0,32,96,224,480,1008,2047,4095,8191,16383,0,32768,98304,229376,0,524288,1572864,0,4194304,12582912,29360128,62914560,133693440,268402688,536838144,1073709056,2147450880,4294967295,0,8589934592,34359738367,0,0,137438953472,412316860416,962072674304,2061584302080,4329327034368,8727373545472,17592186044415,35184372088831] [(0,mV 47 0),(1,oP 48 (.nilc (.t 47))),(2,fD 49 0 48),(3,lD 50 1 49),(4,mV 51 5),(5,mV 52 0),(6,oP 53 (.nilc (.t 52))),(7,fD 54 0 53),(8,lD 55 1 54),(9,oP 56 (.len (.t 55))),(10,bN 57 .rem 51 56),(11,oP 58 (.iad 1 (.t 50) (.t 57))),(12,lD 59 1 58),(13,oP 60 (.cvi .i64 (.t 59))),(14,oP 61 (.bin .mul (.t 60) (.c (.int .i64 131)))),(15,mV 62 0),(16,oP 63 (.nilc (.t 62))),(17,fD 64 0 63),(18,lD 65 1 64),(19,mV 66 5),(20,oP 67 (.bin .mul (.t 66) (.c (.int .i64 7)))),(21,oP 68 (.bin .add (.t 67) (.c (.int .i64 3)))),(22,mV 69 0),(23,oP 70 (.nilc (.t 69))),(24,fD 71 0 70),(25,lD 72 1 71),(26,oP 73 (.len (.t 72))),(27,bN 74 .rem 68 73),(28,oP 75 (.iad 1 (.t 65) (.t 74))),(29,lD 76 1 75),(30,oP 77 (.cvi .i64 (.t 76))),(31,oP 78 (.bin .mul (.t 77) (.c (.int .i64 1117)))),(32,bN 79 .add 61 78),(33,mV 80 5),(34,oP 81 (.bin .mul (.t 80) (.c (.int .i64 29)))),(35,bN 82 .add 79 81),(36,mV 83 5),(37,mV 84 0),(38,oP 85 (.nilc (.t 84))),(39,fD 86 0 85),(40,lD 87 1 86),(41,oP 88 (.len (.t 87))),(42,bN 89 .quo 83 88),(43,oP 90 (.bin .mul (.t 89) (.c (.int .i64 53)))),(44,bN 91 .add 82 90),(45,mV 6 91)]) (sR [mV 92 6,mV 93 6,oP 94 (.bin .quo (.t 93) (.c (.int .i64 64))),bN 95 .xor 92 94,mV 6 95] (sR [mV 96 6,mV 97 1,bN 98 .rem 96 97,mV 4 98] .ret)))))))
theorem dg18:Dg Tryz.prog 18 Tryz.f18 ic18 [(.t 4)]:=⟨Tryz.func18,by kernel_rfl,by kernel_rfl⟩
theorem c18 (code:B) (p n:Int) (hc:code.length≤2000) (hp:0≤p∧p≤1000000000) (hn:n≤1000000):FnP Tryz.prog G 18 1 [rdH code p] [.pv 0 0,.int .i64 n]
 (fun r o=>∃k:Int,0≤k∧(1≤n→k<n)∧r=.int .i64 k∧o=[rdH code (p+1)]):=by
 refine mP dg18 Tryz.ntmps18 ⟨_,_,0,by omega,by omega,rfl,rfl⟩ ?_
 simp only[ic18,go_sem,rdH]
 have t1:∀a:Int,0≤a→0≤a.tmod code.length:=fun a h=>Int.tmod_nonneg _ h
 have t2:∀a:Int,0≤a→0<(code.length:Int)→a.tmod code.length<code.length:=fun a _ h=>Int.tmod_lt_of_pos _ h
 have hpp:p+1 - 1=p:=by omega
 have t3:(code.length:Int)≠0→0≤p.tdiv code.length∧p.tdiv code.length≤p:=fun h=>⟨Int.tdiv_nonneg hp.1 (by omega),Int.tdiv_le_self _ hp.1⟩
 have b8:∀b:UInt8,IntKind.i64.wrap (b.toNat:Int)=b.toNat:=fun b=>i64w (by have:=b.toNat_lt;omega)
 have b1:=(code.getD (p.tmod code.length).toNat default).toNat_lt
 have b2:=(code.getD ((p*7+3).tmod code.length).toNat default).toNat_lt
 have b3:=(code.getD p.toNat default).toNat_lt
 have t4:=t1 p hp.1
 have t5:=t2 p hp.1
 have t6:=t1 (p*7+3) (by omega)
 have t7:=t2 (p*7+3) (by omega)
 clear t1 t2
 with_reducible repeat' (first|rw[i64w (by omega)];try simp only[go_sem,hpp,byR,b8]|refine br ?_ ?_<;>intro h e<;>(try simp only[e,go_sem,hpp,byR,b8])<;>clear e|refine sd ?_<;>try simp only[go_sem,hpp,byR,b8]|fail)
 ·exact retN (.int .i64 0) [rdH code (p+1)] [] (by simp only[go_sem]) ⟨0,by omega,by omega,rfl,rfl⟩ (by simp only[go_sem,rdH]) (by simp[argH,getN,rdH]) (by simp only[go_sem,rdH])
 ·exact retN (.int .i64 0) [rdH code (p+1)] [] (by simp only[go_sem]) ⟨0,by omega,by omega,rfl,rfl⟩ (by simp only[go_sem,rdH]) (by simp[argH,getN,rdH]) (by simp only[go_sem,rdH])
 ·exact retN (.int .i64 (((code.getD p.toNat default).toNat:Int).tmod n)) [rdH code (p+1)] [] (by simp only[go_sem]) ⟨_,Int.tmod_nonneg _ (Int.natCast_nonneg _),fun h=>Int.tmod_lt_of_pos _ (by omega),rfl,rfl⟩ (by simp only[go_sem,rdH]) (by simp[argH,getN,rdH]) (by simp only[go_sem,rdH])
 have hl:(code.length:Int)≠0:=by assumption
 have t3:=t3 hl
 have t5:=t5 (by omega)
 have t7:=t7 (by omega)
 generalize hT:p.tdiv code.length=T at *
 have w1:IntKind.i64.wrap (p*7)=p*7:=i64w (by omega)
 have w2:IntKind.i64.wrap (p*7+3)=p*7+3:=i64w (by omega)
 have w3:∀b:UInt8,IntKind.i64.wrap ((b.toNat:Int)*131)=b.toNat*131:=fun b=>i64w (by have:=b.toNat_lt;omega)
 have w4:∀b:UInt8,IntKind.i64.wrap ((b.toNat:Int)*1117)=b.toNat*1117:=fun b=>i64w (by have:=b.toNat_lt;omega)
 have w5:∀a b:UInt8,IntKind.i64.wrap ((a.toNat:Int)*131+b.toNat*1117)=a.toNat*131+b.toNat*1117:=fun a b=>i64w (by have:=a.toNat_lt;have:=b.toNat_lt;omega)
 have w6:IntKind.i64.wrap (p*29)=p*29:=i64w (by omega)
 have w7:∀a b:UInt8,IntKind.i64.wrap ((a.toNat:Int)*131+b.toNat*1117+p*29)=a.toNat*131+b.toNat*1117+p*29:=fun a b=>i64w (by have:=a.toNat_lt;have:=b.toNat_lt;omega)
 have w8:IntKind.i64.wrap T=T:=i64w (by omega)
 have w9:IntKind.i64.wrap (T*53)=T*53:=i64w (by omega)
 have w10:∀a b:UInt8,IntKind.i64.wrap ((a.toNat:Int)*131+b.toNat*1117+p*29+T*53)=a.toNat*131+b.toNat*1117+p*29+T*53:=fun a b=>i64w (by have:=a.toNat_lt;have:=b.toNat_lt;omega)
 simp only[w1,w2,w3]
 refine effG (by omega) ?_
 simp only[go_sem,byR]
 with_reducible repeat' (first|refine br ?_ ?_<;>intro h e<;>(try simp only[e,go_sem,b8,byR,hT,w1,w2,w3,w4,w5,w6,w7,w8,w9,w10])<;>clear e|rw[i64w (by omega)]|refine sd ?_<;>try simp only[go_sem,b8,byR,hT,w1,w2,w3,w4,w5,w6,w7,w8,w9,w10]|fail)
 generalize hX:(((code.getD (p.tmod code.length).toNat default).toNat:Int)*131+(code.getD ((p*7+3).tmod code.length).toNat default).toNat*1117+p*29+T*53)=X
 have hX2:0≤X∧X<1099511627776:=by omega
 have hd1:0≤X.tdiv 64:=Int.tdiv_nonneg hX2.1 (by omega)
 have hd2:X.tdiv 64≤X:=Int.tdiv_le_self _ hX2.1
 have w11:IntKind.i64.wrap (X.tdiv 64)=X.tdiv 64:=i64w (by omega)
 rw[w11]
 have hb:=xor_nn hX2 (show 0≤X.tdiv 64∧X.tdiv 64<1099511627776 by omega)
 exact retN (.int .i64 ((bits .xor .i64 X (X.tdiv 64)).tmod n)) [rdH code (p+1)] [] (by simp only[go_sem]) ⟨_,Int.tmod_nonneg _ hb,fun h=>Int.tmod_lt_of_pos _ (by omega),rfl,rfl⟩ (by simp only[go_sem,rdH]) (by simp[argH,getN,rdH]) (by simp only[go_sem,rdH])
theorem pkN (code:B) (P N:Int) (dd:Nat) (hc:code.length≤2000) {vs:List V} {d:Option Nat} {st:St} {K:St→List Nat→List Nat→Prop}
 (hk:∀k:Int,0≤k→(1≤N→k<N)→K (st.app d ((V.int .i64 k).rn (bk [0] 1 dd)) (outU (bk [0] 1 dd) 0 [rdH code (P+1)]++deads ([0].drop 1++bif true then [] else []))) (callTc [0] [] dd 1) (callTc [0] (bif true then [] else []) dd 1))
 (hp:0≤P∧P≤1000000000:=by omega) (hn:N≤1000000:=by omega)
 (hw:WkL (Wk (fun c=>c∈[]) (nsF [0]) st.h (chH [rdH code P])) vs [.pv 0 0,.int .i64 N]:=by simp only[go_sem,rdH];first|done|simp)
 (hs:NsL (fun n s=>s.live=true∧WkH (fun c=>c∈[]) (nsF [0]) st.h (chH [rdH code P]) (st.h n) s) [0] [rdH code P]:=by simp only[go_sem,rdH];first|done|simp)
 (hf:∀i,i<1→st.h (newN dd i)=.fresh:=by intro i hi;obtain rfl:i=0:=(by omega);simp only[go_sem]):CallV Tryz.prog G 18 vs d st K:=by
 refine callN (c18 code P N hc hp hn) [0] [] true dd 1 hw hs (by simp) (by simp) (by simp) ?_ hf ?_
 ·rintro _ _ ⟨k,_,_,rfl,rfl⟩;exact⟨by simp,by simp,.inl rfl,fun i hi=>by obtain rfl:i=0:=(by omega);simp[chH,stepOk,rdH]⟩
 ·rintro _ _ ⟨k,k1,k2,rfl,rfl⟩
  exact hk k k1 k2
end Go.Proofs.YtiegngjdjheebaaGreatDoor.W
namespace Go.Proofs.YtiegngjdjheebaaGreatDoor.W
open Go Go.RowKit Go.Proofs Go.Proofs.YtiegngjdjheebaaGreatDoor.VL Go.Proofs.YtiegngjdjheebaaGreatDoor.M Go.ChangeShapes Go.WideShapes
theorem laidOut:laidOutB Tryz.prog=true:=by kernel_rfl
theorem mapF:mapsRowed Tryz.prog=true:=by kernel_rfl
theorem mayF:Tryz.prog.mayEnter=true:=by kernel_rfl
theorem stoF:Tryz.prog.stopsHeard=true:=by kernel_rfl
theorem lifF:(Rows.fnLinesUncalledRow.lifted==Tryz.prog.liftsFinal)=true:=by kernel_rfl
theorem pkeF:(Rows.fnLinesUncalledRow.plainKeys==Tryz.prog.plainKeys)=true:=by kernel_rfl
theorem makF:(Tryz.prog.make==some Rows.fnLinesUncalledRow.make)=true:=by kernel_rfl
theorem own:ownKnob Tryz.prog.godebug=none:=by kernel_rfl
def noO:Nat→Prop:=fun _=>False
def noH:Nat→Hs:=fun _=>.fresh
def noρ:Nat→VL.Loc:=fun _=>default
theorem noB (W:World):owns ⟨W,blocks noρ (chH []),fun _=>False,0,noρ⟩ noρ (chH [])=noO:=by
 funext b
 apply propext
 constructor
 ·rintro(h|⟨c,h,_⟩)
  ·exact h
  ·simp[chH,Hs.live] at h
 ·intro h;exact h.elim
theorem FnR.calls {P:Program} {G:Glob} {f:FuncId} {vs:List V} {b:Bool} (F:FnR P G f vs (.bool b)) {W:World} {us:List Value} (hg:G.g W) (ha:DenArgs W noO noρ noH vs us) :
 Calls P f us.toArray W fun e W'=>e=.returned (.bool b)∧Below W.heap.size W W':=by
 have hc:chH []=noH:=by funext x;simp[chH,noH]
 have nl:∀c,(noH c).live=true→False:=fun c h=>by cases h
 have hb:∀b,¬blocks noρ (chH []) b:=fun b ⟨c,h,_⟩=>by rw[hc] at h;exact nl c h
 refine(F.run W noρ (fun _=>False) us hg (fun b h=>h.elim) (fun b h=>h.elim) (fun b h=>(hb b h).elim) ⟨rfl,rfl,rfl,Nat.le_refl _,fun _ _ _=>rfl,fun c=>(by rw[hc];trivial),fun c h=>(by rw[hc] at h;exact(nl c h).elim),fun c c' h=>(by rw[hc] at h;exact(nl c h).elim),fun i hi=>absurd hi (Nat.not_lt_zero _)⟩ (by rw[noB,hc];exact ha)).mono fun e W' hp=>?_
 obtain⟨u,res,out,ρ',rfl,⟨rfl,rfl⟩,r,hd⟩:=hp
 refine⟨by rw[inv_bool hd],r.os,r.tape,r.output,r.grow,fun k hk=>r.keep k hk (hb k)⟩
theorem gES:Tryz.prog.globalNamed "strconv.ErrSyntax"=some 2:=by kernel_rfl
theorem gER:Tryz.prog.globalNamed "strconv.ErrRange"=some 3:=by kernel_rfl
theorem gESt:(Tryz.prog.globals[2]?).map (·.type)=some 54:=by kernel_rfl
theorem gERt:(Tryz.prog.globals[3]?).map (·.type)=some 54:=by kernel_rfl
theorem rowES (u:TypeId) (h:Tryz.prog.typeName? 3 u=some "*errors.errorString"):u=218 :=
 typeName_ptr_named (nm:= "errors.errorString") (by kernel_rfl) (by kernel_rfl) (by decide) u h
theorem gOk {l:List (String×DataW Unit)} {W:World} (hl:l=Rows.fnLinesUncalledRow.laid) (hL:laidMetH Tryz.prog l W) (hs:W.ShapedOpen Tryz.prog):G.g W:=by
 subst hl
 rw[MakeChecks.laidMetH_plain _ _ _ (by kernel_rfl)] at hL
 obtain⟨a0,s0,hv0,-,-,-⟩:=laid_sentinel hL.tail.tail.tail.tail gER gERt Tryz.underlying54 rowES Tryz.underlying218 Tryz.underlying220 rfl rfl Tryz.underlying9 (by kernel_rfl) (by kernel_rfl)
 obtain⟨a1,s1,hv1,-,-,-⟩:=laid_sentinel hL.tail.tail.tail.tail.tail gES gESt Tryz.underlying54 rowES Tryz.underlying218 Tryz.underlying220 rfl rfl Tryz.underlying9 (by kernel_rfl) (by kernel_rfl)
 refine⟨cell_of_shapedOpen_int (t:=3) (zero:=#[.int .i64 0]) hs (of_decide_eq_true (by kernel_rfl)) (by kernel_rfl) rfl (by kernel_rfl) (by kernel_rfl) Tryz.underlying3, ?_, ?_⟩
 ·exact⟨_,by have h0:=World.var?_cell gES hv1 0;simpa using h0,.inr ⟨_,_,rfl⟩⟩
 ·exact⟨_,by have h0:=World.var?_cell gER hv0 0;simpa using h0,.inr ⟨_,_,rfl⟩⟩
theorem open_code {H:Type} {enc:TypeId×Value→H} {W:World} {v:Value} {d:DataW H} {ps:List MemPlace} (h:DataW.Trod enc Tryz.prog W 0 (fun _=>true) true 22 v d ps) (hv:∃a l c,v=.slice a l c) :
 ∃code:B,Den W noO noρ noH (.sl 1 (code.map byR)) v:=by
 obtain⟨a0,len0,cap0,rfl⟩:=hv
 obtain⟨fuel,hf⟩:=h
 rcases open_ints Tryz.underlying22 Tryz.underlying5 (by kernel_rfl) hf with⟨hcs,_⟩|⟨x,l,c,zs,hcs,_,hl,hm,hz,_,hcell,hwz⟩
 ·simp[Value.cells] at hcs
  obtain⟨rfl,rfl,rfl⟩:=hcs
  exact⟨[],Imm.esl 1 none 0⟩
 ·simp[Value.cells] at hcs
  obtain⟨rfl,rfl,rfl⟩:=hcs
  simp only[if_true] at hz
  refine⟨(zs.take len0).map fun z=>UInt8.ofNat z.toNat, ?_⟩
  have hb:∀(i:Nat),i<len0→∃z,zs[i]?=some z∧0≤z∧z≤255∧W.cell? (x.add i)=some (.int .u8 z):=fun i hi=>by
   have hiz:i<zs.length:=by omega
   have:=bounds_u8 (hwz _ (List.getElem_mem hiz))
   refine⟨zs[i],zE hiz,this.1,this.2, ?_⟩
   rw[hcell i hiz]
   simp[List.getD,hiz]
  have hlen:((zs.take len0).map fun z=>UInt8.ofNat z.toNat).length=len0:=by simp;omega
  cases len0 with
  | zero=>exact Imm.esl 1 _ _
  | succ n =>
    obtain⟨b,o,sp⟩:=x
    have hsp:sp=none:=by
     obtain⟨z,_,_,_,h3⟩:=hb 0 (by omega)
     simp only[Addr.add,if_true] at h3
     unfold World.cell? at h3
     split at h3
     ·split at h3
      ·cases h3
      ·rename_i hs;cases sp with
       | none=>rfl
       | some k=>simp at hs
     ·cases h3
    subst hsp
    have hlt:b<W.heap.size:=by
     obtain⟨z,_,_,_,h3⟩:=hb 0 (by omega)
     simp only[Addr.add,if_true] at h3
     unfold World.cell? at h3
     split at h3
     ·rename_i hh;exact(Array.getElem?_eq_some_iff.1 hh).1
     ·cases h3
    have key:=Imm.sl (w:=W) (O:=noO) 1 (((zs.take (n+1)).map fun z=>UInt8.ofNat z.toNat).map byR) b o cap0 (fun i _=>.int .u8 (zs.getD i 0)) (fun h=>h) hlt (by simp;omega) (fun r hr=>by
     obtain⟨y,_,rfl⟩:=List.mem_map.1 hr;rfl) (by simp;omega) ?_ ?_
    ·have e:(((zs.take (n+1)).map fun z=>UInt8.ofNat z.toNat).map byR).length=n+1:=by simp;omega
     rw[e] at key
     exact key
    ·intro i r j v hr hv
     have hi:i<n+1:=by have:=(List.getElem?_eq_some_iff.1 hr).1;simp at this;omega
     obtain⟨z,h1,_,_,h3⟩:=hb i hi
     simp only[List.getElem?_map,List.getElem?_take,if_pos hi,h1,Option.map_some,zS] at hr
     subst hr
     have hj:j=0:=by
      cases j with
      | zero=>rfl
      | succ j=>simp[byR] at hv
     subst hj
     have ha:(⟨b,o+(i*1+0),none⟩:Addr)=(⟨b,o,none⟩:Addr).add i:=by
      unfold Addr.add
      split
      ·rename_i h0;subst h0;rfl
      ·simp
     rw[ha,h3]
     simp[List.getD,h1]
    ·intro i r j v hr hv
     have hi:i<n+1:=by have:=(List.getElem?_eq_some_iff.1 hr).1;simp at this;omega
     obtain⟨z,h1,h2,h2',_⟩:=hb i hi
     simp only[List.getElem?_map,List.getElem?_take,if_pos hi,h1,Option.map_some,zS] at hr
     subst hr
     cases j with
     | succ j=>simp[byR] at hv
     | zero =>
       simp only[byR,List.getElem?_cons_zero,zS] at hv
       subst hv
       have:((UInt8.ofNat z.toNat).toNat:Int)=zs.getD i 0:=by
        simp only[List.getD,h1,Option.getD_some]
        rw[UInt8.toNat_ofNat']
        omega
       rw[this]
       exact Imm.int _ _
end Go.Proofs.YtiegngjdjheebaaGreatDoor.W
namespace Go.Proofs.YtiegngjdjheebaaGreatDoor.W
open Go Go.RowKit Go.Proofs Go.Proofs.YtiegngjdjheebaaGreatDoor.VL Go.Proofs.YtiegngjdjheebaaGreatDoor.M
def ic83:IC:=sR [oP 1 (.box 70 (.t 0)),oP 2 (.mv (.c (.bool false)))] (.seq (sR [fD 3 1 1,lA 4 2 3,oP 5 (.call 91 [.t 4]),oP 6 (.un .not (.t 5)),mV 7 6,⟨some 8,some (7,false),.fad 3 (.t 1)⟩,⟨some 9,some (7,false),.ld 2 true (.t 8)⟩,⟨some 10,some (7,false),.call 91 [.t 9]⟩,⟨some 11,some (7,false),.un .not (.t 10)⟩,oP 12 (.pick (.t 7) (.c (.bool true)) (.t 11)),mV 13 12,⟨some 14,some (13,false),.fad 5 (.t 1)⟩,⟨some 15,some (13,false),.ld 1 false (.t 14)⟩,⟨some 16,some (13,false),.call 76 [.t 15,.c i0,.c (.int .i64 99)]⟩,⟨some 17,some (13,false),.un .not (.t 16)⟩,oP 18 (.pick (.t 13) (.c (.bool true)) (.t 17))] (.cond (.t 18) (sR [oP 2 (.mv (.c (.bool false)))] .ret) .skip)) (sR [fD 19 0 1,lD 20 1 19,oP 21 (.bin .eql (.t 20) (.c (.int .i64 1))),mV 22 21,⟨some 23,some (22,true),.fad 6 (.t 1)⟩,⟨some 24,some (22,true),.ld 1 false (.t 23)⟩,⟨some 25,some (22,true),.call 112 [.t 24]⟩,oP 26 (.pick (.t 22) (.t 25) (.c (.bool false))),mV 27 26,⟨some 28,some (27,true),.fad 6 (.t 1)⟩,⟨some 29,some (27,true),.ld 1 false (.t 28)⟩,⟨some 30,some (27,true),.bin .neq (.t 29) (.c s0)⟩,oP 31 (.pick (.t 27) (.t 30) (.c (.bool false))),mV 32 31,⟨some 33,some (32,false),.fad 0 (.t 1)⟩,⟨some 34,some (32,false),.ld 1 false (.t 33)⟩,⟨some 35,some (32,false),.bin .eql (.t 34) (.c (.int .i64 2))⟩,⟨some 36,some (32,false),.mv (.t 35)⟩,⟨some 37,some (36,true),.fad 6 (.t 1)⟩,⟨some 38,some (36,true),.ld 1 false (.t 37)⟩,⟨some 39,some (36,true),.bin .eql (.t 38) (.c s0)⟩,⟨some 40,some (32,false),.pick (.t 36) (.t 39) (.c (.bool false))⟩,oP 41 (.pick (.t 32) (.c (.bool true)) (.t 40)),mV 2 41] .ret))
theorem dg83:Dg Tryz.prog 83 Tryz.f83 ic83 [(.t 2)]:=⟨Tryz.func83,by kernel_rfl,by kernel_rfl⟩
theorem isE (s:B):List.isEmpty s=decide (s=[]):=by cases s<;>simp
theorem c83 (p:Pk) (h:p.text.length≤2000000):FnR Tryz.prog G 83 [.agg [.int .i64 p.kind,.int .i64 p.frm.a,.int .i64 p.frm.p,.int .i64 p.to.a,.int .i64 p.to.p,.int .i64 p.at_,.str p.text]] (.bool (pkOk p)):=by
 refine mF dg83 Tryz.ntmps83 ?_
 simp only[ic83,go_sem]
 with_reducible repeat' (first|refine br ?_ ?_<;>intro h e<;>(try simp only[e,go_sem])<;>clear e|rw[i64w (by omega)]|refine sd ?_<;>try simp only[go_sem]|(first|refine cr (c91 ..) ?_|refine cr (c76 ..) ?_|refine cr (c112 ..) ?_)<;>try simp only[go_sem]|fail)
 all_goals simp_all[pkOk,isE]
def ic60:IC:=sR [oP 1 (.box 70 (.t 0)),oP 2 (.mv (.c (.bool false)))] (.seq (sR [fD 3 1 1,lA 4 2 3,oP 5 (.call 62 [.t 4]),oP 6 (.un .not (.t 5)),mV 7 6,⟨some 8,some (7,false),.fad 3 (.t 1)⟩,⟨some 9,some (7,false),.ld 2 true (.t 8)⟩,⟨some 10,some (7,false),.call 62 [.t 9]⟩,⟨some 11,some (7,false),.un .not (.t 10)⟩,oP 12 (.pick (.t 7) (.c (.bool true)) (.t 11)),mV 13 12,⟨some 14,some (13,false),.fad 5 (.t 1)⟩,⟨some 15,some (13,false),.ld 1 false (.t 14)⟩,⟨some 16,some (13,false),.call 100 [.t 15,.c i0,.c (.int .i64 99)]⟩,⟨some 17,some (13,false),.un .not (.t 16)⟩,oP 18 (.pick (.t 13) (.c (.bool true)) (.t 17))] (.cond (.t 18) (sR [oP 2 (.mv (.c (.bool false)))] .ret) .skip)) (.seq (sR [fD 19 0 1,lD 20 1 19] (.block 0 (sR [oP 22 (.bin .eql (.t 20) (.c (.int .i64 1))),mV 21 22] (.cond (.t 21) (sR [fD 23 6 1,lD 24 1 23,oP 25 (.call 109 [.t 24]),mV 26 25,⟨some 27,some (26,true),.fad 6 (.t 1)⟩,⟨some 28,some (26,true),.ld 1 false (.t 27)⟩,⟨some 29,some (26,true),.bin .neq (.t 28) (.c s0)⟩,oP 30 (.pick (.t 26) (.t 29) (.c (.bool false))),mV 2 30] .ret) (sR [oP 32 (.bin .eql (.t 20) (.c (.int .i64 2))),mV 31 32] (.cond (.t 31) (sR [fD 33 6 1,lD 34 1 33,oP 35 (.bin .eql (.t 34) (.c s0)),mV 2 35] .ret) .skip)))))) (sR [oP 2 (.mv (.c (.bool false)))] .ret)))
theorem dg60:Dg Tryz.prog 60 Tryz.f60 ic60 [(.t 2)]:=⟨Tryz.func60,by kernel_rfl,by kernel_rfl⟩
theorem c60 (p:Pk) (h:p.text.length≤2000000):FnR Tryz.prog G 60 [.agg [.int .i64 p.kind,.int .i64 p.frm.a,.int .i64 p.frm.p,.int .i64 p.to.a,.int .i64 p.to.p,.int .i64 p.at_,.str p.text]] (.bool (pkOk p)):=by
 refine mF dg60 Tryz.ntmps60 ?_
 simp only[ic60,go_sem]
 with_reducible repeat' (first|refine br ?_ ?_<;>intro h e<;>(try simp only[e,go_sem])<;>clear e|rw[i64w (by omega)]|refine sd ?_<;>try simp only[go_sem]|(first|refine cr (c62 ..) ?_|refine cr (c100 ..) ?_|refine cr (c109 ..) ?_)<;>try simp only[go_sem]|fail)
 all_goals simp_all[pkOk,isE]
def ic154:IC:=sR [oP 1 (.box 70 (.t 0)),oP 2 (.mv (.c (.bool false)))] (sR [fD 3 1 1,lA 4 2 3,oP 5 (.call 64 [.t 4]),mV 6 5,⟨some 7,some (6,true),.fad 3 (.t 1)⟩,⟨some 8,some (6,true),.ld 2 true (.t 7)⟩,⟨some 9,some (6,true),.call 65 [.t 8]⟩,oP 10 (.pick (.t 6) (.t 9) (.c (.bool false))),mV 2 10] .ret)
theorem dg154:Dg Tryz.prog 154 Tryz.f154 ic154 [(.t 2)]:=⟨Tryz.func154,by kernel_rfl,by kernel_rfl⟩
theorem c154 (p:Pk):FnR Tryz.prog G 154 [.agg [.int .i64 p.kind,.int .i64 p.frm.a,.int .i64 p.frm.p,.int .i64 p.to.a,.int .i64 p.to.p,.int .i64 p.at_,.str p.text]] (.bool p.outward):=by
 refine mF dg154 Tryz.ntmps154 ?_
 simp only[ic154,go_sem]
 with_reducible repeat' (first|refine br ?_ ?_<;>intro h e<;>(try simp only[e,go_sem])<;>clear e|rw[i64w (by omega)]|refine sd ?_<;>try simp only[go_sem]|(first|refine cr (c64 ..) ?_|refine cr (c65 ..) ?_)<;>try simp only[go_sem]|fail)
 all_goals simp_all[Pk.outward]
def ic84:IC:=sR [oP 1 (.box 70 (.t 0)),oP 2 (.mv (.c (.bool false)))] (sR [fD 3 1 1,lA 4 2 3,oP 5 (.call 65 [.t 4]),mV 6 5,⟨some 7,some (6,true),.fad 3 (.t 1)⟩,⟨some 8,some (6,true),.ld 2 true (.t 7)⟩,⟨some 9,some (6,true),.call 69 [.t 8]⟩,oP 10 (.pick (.t 6) (.t 9) (.c (.bool false))),mV 2 10] .ret)
theorem dg84:Dg Tryz.prog 84 Tryz.f84 ic84 [(.t 2)]:=⟨Tryz.func84,by kernel_rfl,by kernel_rfl⟩
theorem c84 (p:Pk):FnR Tryz.prog G 84 [.agg [.int .i64 p.kind,.int .i64 p.frm.a,.int .i64 p.frm.p,.int .i64 p.to.a,.int .i64 p.to.p,.int .i64 p.at_,.str p.text]] (.bool p.inward):=by
 refine mF dg84 Tryz.ntmps84 ?_
 simp only[ic84,go_sem]
 with_reducible repeat' (first|refine br ?_ ?_<;>intro h e<;>(try simp only[e,go_sem])<;>clear e|rw[i64w (by omega)]|refine sd ?_<;>try simp only[go_sem]|(first|refine cr (c65 ..) ?_|refine cr (c69 ..) ?_)<;>try simp only[go_sem]|fail)
 all_goals simp_all[Pk.inward]
def ic172:IC:=sR [oP 4 (.box 45 (.t 1)),oP 5 (.box 45 (.t 2)),oP 6 (.mv (.c i0))] (.seq (sR [oP 7 (.mv (.c i0))] (.block 0 (.loop (.seq (sR [mV 8 7,mV 9 0,oP 10 (.len (.t 9)),bN 11 .lss 8 10] (.cond (.t 11) .skip (.exit 0))) (.seq (.block 1 (.seq (.drw [0,0,3,7,15,0,63,127,255,255,1023,2047,4095,255,16383,32767] [(0,mV 14 0),(1,mV 15 7),(2,oP 16 (.iad 8 (.t 14) (.t 15))),(3,fD 17 0 16),(4,lA 18 2 17),(5,lA 19 2 4),(6,oP 20 (.eqs false [.i,.i] (.t 18) (.t 19))),(7,mV 21 20),(8,⟨some 22,some (21,true),.mv (.t 0)⟩),(9,⟨some 23,some (21,true),.mv (.t 7)⟩),(10,⟨some 24,some (21,true),.iad 8 (.t 22) (.t 23)⟩),(11,⟨some 25,some (21,true),.fad 2 (.t 24)⟩),(12,⟨some 26,some (21,true),.ld 2 true (.t 25)⟩),(13,⟨some 27,some (21,true),.ld 2 true (.t 5)⟩),(14,⟨some 28,some (21,true),.eqs false [.i,.i] (.t 26) (.t 27)⟩),(15,oP 29 (.pick (.t 21) (.t 28) (.c (.bool false))))]) (.cond (.t 29) (sR [mV 30 7,mV 6 30] .ret) .skip))) (.reg [mV 12 7,oP 13 (.bin .add (.t 12) (.c (.int .i64 1))),mV 7 13])))))) (sR [oP 6 (.mv (.c (.int .i64 (-1))))] .ret))
theorem dg172:Dg Tryz.prog 172 Tryz.f172 ic172 [(.t 6)]:=⟨Tryz.func172,by kernel_rfl,by kernel_rfl⟩
theorem c172 (fs:List Flw) (i o:E) (hl:fs.length≤2000000):FnR Tryz.prog G 172 [.sl 8 (fs.map Flw.row),.agg [.int .i64 i.a,.int .i64 i.p],.agg [.int .i64 o.a,.int .i64 o.p]] (.int .i64 (ixI (flowIx fs i o))):=by
 refine mF dg172 Tryz.ntmps172 ?_
 simp only[ic172,go_sem]
 refine loopN (fun k:Nat=>⟨getL [(0,.sl 8 (fs.map Flw.row)),(4,.pv 1004 0),(5,.pv 1005 0),(7,.int .i64 (k:Int))],getH [(1004,.var 45 [.int .i64 i.a,.int .i64 i.p]),(1005,.var 45 [.int .i64 o.a,.int .i64 o.p])]⟩) (fun k=>fs.length - k)
  (fun k=>k≤fs.length∧flowIx fs i o=(flowIx (fs.drop k) i o).map (·+k)) 0 (leQ []) ⟨Nat.zero_le _,by simp⟩ ?_
 intro k ⟨hk,ha⟩
 simp only[go_sem]
 by_cases h:(k:Int)<fs.length
 ·have hil:k<fs.length:=by omega
  have hg:fs.getD k default=fs[k]:=by simp[List.getD,hil]
  rw[List.drop_eq_getElem_cons hil,flowIx_cons] at ha
  simp only[eq_true h,go_sem]
  with_reducible repeat' (first|refine br ?_ ?_<;>intro h e<;>(try simp only[e,go_sem,hg,E.ext_iff'])<;>clear e|rw[i64w (by omega)]|refine sd ?_<;>try simp only[go_sem,hg,E.ext_iff']|fail)
  ·rw[if_pos ⟨by assumption,h⟩] at ha
   rw[ha];simp[ixI]
  ·rw[if_neg (fun hc=>h hc.2)] at ha
   refine⟨k+1,by omega,⟨by omega,by rw[ha];cases flowIx (fs.drop (k+1)) i o<;>simp;omega⟩,(leQ [])⟩
  ·rw[if_neg (fun hc=>h hc.1)] at ha
   refine⟨k+1,by omega,⟨by omega,by rw[ha];cases flowIx (fs.drop (k+1)) i o<;>simp;omega⟩,(leQ [])⟩
 ·simp only[eq_false h,go_sem]
  have:k=fs.length:=by omega
  subst this
  rw[ha,List.drop_length];rfl
def ic198:IC:=sR [oP 3 (.box 181 (.t 0)),oP 4 (.mv (.c (.bool false)))] (sR [fD 5 0 3,lA 6 2 5,lA 7 2 1,oP 8 (.eqs false [.i,.i] (.t 6) (.t 7)),mV 9 8,⟨some 10,some (9,true),.fad 2 (.t 3)⟩,⟨some 11,some (9,true),.ld 2 true (.t 10)⟩,⟨some 12,some (9,true),.ld 2 true (.t 2)⟩,⟨some 13,some (9,true),.eqs false [.i,.i] (.t 11) (.t 12)⟩,oP 14 (.pick (.t 9) (.t 13) (.c (.bool false))),mV 4 14] .ret)
theorem dg198:Dg Tryz.prog 198 Tryz.f198 ic198 [(.t 4)]:=⟨Tryz.func198,by kernel_rfl,by kernel_rfl⟩
theorem c198 (f:Flw) (i o:E):FnR Tryz.prog G 198 [.agg [.int .i64 f.ins.a,.int .i64 f.ins.p,.int .i64 f.out.a,.int .i64 f.out.p,.str f.up.inn,.sl 2 (f.up.parts.map Part.row),.str f.down.inn,.sl 2 (f.down.parts.map Part.row)],.iptr [.int .i64 i.a,.int .i64 i.p] 0,.iptr [.int .i64 o.a,.int .i64 o.p] 0] (.bool (decide (f.ins=i)&&decide (f.out=o))):=by
 refine mF dg198 Tryz.ntmps198 ?_
 simp only[ic198,go_sem,E.ext_iff']
 with_reducible repeat' (first|refine br ?_ ?_<;>intro h e<;>(try simp only[e,go_sem,E.ext_iff'])<;>clear e|rw[i64w (by omega)]|refine sd ?_<;>try simp only[go_sem,E.ext_iff']|fail)
 all_goals simp_all
def ic197:IC:=sR [oP 4 (.mv (.c i0))] (.seq (sR [mV 6 0,oP 7 (.len (.t 6)),oP 8 (.mv (.c i0))] (.block 0 (.loop (sR [bN 9 .lss 8 7] (.seq (.cond (.t 9) .skip (.exit 0)) (.seq (.block 1 (sR [mV 10 8,mV 5 10] (sR [mV 11 1,mV 12 0,mV 13 5,oP 14 (.iad 8 (.t 12) (.t 13)),lA 15 8 14,oP 16 (.cal (.t 11) [.t 15])] (.cond (.t 16) (sR [mV 17 5,mV 4 17] .ret) .skip)))) (.reg [oP 18 (.bin .add (.t 8) (.c (.int .i64 1))),mV 8 18]))))))) (sR [oP 4 (.mv (.c (.int .i64 (-1))))] .ret))
theorem dg197:Dg Tryz.prog 197 Tryz.f197 ic197 [(.t 4)]:=⟨Tryz.func197,by kernel_rfl,by kernel_rfl⟩
theorem c197 (fs:List Flw) (i o:E) (hl:fs.length≤2000000):FnR Tryz.prog G 197 [.sl 8 (fs.map Flw.row),.fn 198 [.iptr [.int .i64 i.a,.int .i64 i.p] 0,.iptr [.int .i64 o.a,.int .i64 o.p] 0]] (.int .i64 (ixI (flowIx fs i o))):=by
 refine mF dg197 Tryz.ntmps197 ?_
 simp only[ic197,go_sem]
 refine loopN (fun k:Nat=>⟨getL [(0,.sl 8 (fs.map Flw.row)),(1,.fn 198 [.iptr [.int .i64 i.a,.int .i64 i.p] 0,.iptr [.int .i64 o.a,.int .i64 o.p] 0]),(7,.int .i64 fs.length),(8,.int .i64 (k:Int))],getH []⟩) (fun k=>fs.length - k)
  (fun k=>k≤fs.length∧flowIx fs i o=(flowIx (fs.drop k) i o).map (·+k)) 0 (leQ []) ⟨Nat.zero_le _,by simp⟩ ?_
 intro k ⟨hk,ha⟩
 simp only[go_sem]
 by_cases h:(k:Int)<fs.length
 ·have hil:k<fs.length:=by omega
  have hg:fs.getD k default=fs[k]:=by simp[List.getD,hil]
  rw[List.drop_eq_getElem_cons hil,flowIx_cons] at ha
  simp only[eq_true h,go_sem]
  with_reducible repeat' (first|refine br ?_ ?_<;>intro h e<;>(try simp only[e,go_sem,hg])<;>clear e|rw[i64w (by omega)]|refine sd ?_<;>try simp only[go_sem,hg]|fail)
  refine callR (c198 fs[k] i o) rfl rfl ?_
  simp only[go_sem]
  by_cases hc:fs[k].ins=i∧fs[k].out=o
  ·rw[if_pos hc] at ha
   simp only[hc,go_sem]
   rw[ha];simp[ixI]
  ·rw[if_neg hc] at ha
   have:(decide (fs[k].ins=i)&&decide (fs[k].out=o))=false:=by
    rw[←Bool.decide_and];simpa using hc
   simp only[this,go_sem]
   with_reducible repeat' (first|refine br ?_ ?_<;>intro h e<;>(try simp only[e,go_sem])<;>clear e|rw[i64w (by omega)]|refine sd ?_<;>try simp only[go_sem]|fail)
   refine⟨k+1,by omega,⟨by omega,by rw[ha];cases flowIx (fs.drop (k+1)) i o<;>simp;omega⟩,(leQ [])⟩
 ·simp only[eq_false h,go_sem]
  have:k=fs.length:=by omega
  subst this
  rw[ha,List.drop_length];rfl
theorem mkf_pv1 (f a b:Nat):mkfF f [.pv a b]=some (.fn f [.pv a b]):=mkf_e rfl
theorem mkf_pv2 (f a b c d:Nat):mkfF f [.pv a b,.pv c d]=some (.fn f [.pv a b,.pv c d]):=mkf_e rfl
def ic180:IC:=sR [oP 3 (.box 38 (.t 0)),oP 4 (.box 45 (.t 1)),oP 5 (.box 45 (.t 2)),oP 6 (.mv (.c i0))] (sR [fD 7 1 3,lD 8 1 7,oP 9 (.mkf 198 [.t 4,.t 5]),oP 10 (.call 197 [.t 8,.t 9]),mV 6 10] .ret)
theorem dg180:Dg Tryz.prog 180 Tryz.f180 ic180 [(.t 6)]:=⟨Tryz.func180,by kernel_rfl,by kernel_rfl⟩
theorem c180 (rows:List (List V)) (fs:List Flw) (i o:E) (hl:fs.length≤2000000):FnR Tryz.prog G 180 [.agg [.sl 3 rows,.sl 8 (fs.map Flw.row)],.agg [.int .i64 i.a,.int .i64 i.p],.agg [.int .i64 o.a,.int .i64 o.p]] (.int .i64 (ixI (flowIx fs i o))):=by
 refine mF dg180 Tryz.ntmps180 ?_
 simp only[ic180,go_sem,mkf_pv2]
 refine callF (c197 fs i o hl) [1004,1005] true (by simp only[go_sem,List.mem_cons,true_or,or_true]) (by simp only[List.mem_cons,List.not_mem_nil,or_false];rintro c (rfl|rfl)<;>rfl) rfl (.inl rfl) ?_
 simp only[go_sem]
def strV (x:B):List V:=[.str x]
def cutG (c:UInt8) (l r:B):List B:=match cutAll c r with
 | []=>[l]
 | h::t=>(l++h)::t
theorem cutG_nil (c:UInt8) (l:B):cutG c l []=[l]:=by simp[cutG,cutAll]
theorem cutG_sep (c:UInt8) (l r:B):cutG c l (c::r)=l::cutG c [] r:=by
 cases h:cutAll c r with
 | nil=>exact absurd h (cutAll_ne c r)
 | cons a b=>simp[cutG,cutAll,h]
theorem cutG_byte {c x:UInt8} (hx:x≠c) (l r:B):cutG c l (x::r)=cutG c (l++[x]) r:=by
 cases h:cutAll c r with
 | nil=>exact absurd h (cutAll_ne c r)
 | cons a b=>simp[cutG,cutAll_cons hx h,h]
theorem cutG_all (c:UInt8) (t:B):cutG c [] t=cutAll c t:=by
 cases h:cutAll c t with
 | nil=>exact absurd h (cutAll_ne c t)
 | cons a b=>simp[cutG,h]
theorem cutAll_len (c:UInt8):∀t:B,(cutAll c t).length≤t.length+1
 | []=>by simp[cutAll]
 | x::r=>by
   have:=cutAll_len c r
   unfold cutAll
   split
   ·simp;omega
   ·split<;>simp_all<;>omega
theorem cutAll_mem (c:UInt8):∀t:B,∀l∈cutAll c t,l.length≤t.length
 | [],l,h=>by simp[cutAll] at h;simp[h]
 | x::r,l,h=>by
   have ih:=cutAll_mem c r
   unfold cutAll at h
   split at h
   ·rcases List.mem_cons.1 h with rfl|h
    ·simp
    ·have:=ih l h;simp;omega
   ·split at h
    ·simp at h;subst h;simp
    ·rename_i a b hab
     rcases List.mem_cons.1 h with rfl|h
     ·have:=ih a (by rw[hab];simp);simp;omega
     ·have:=ih l (by rw[hab];simp[h]);simp;omega
theorem u8_eq (a b:UInt8):((a.toNat:Int)=(b.toNat:Int))=(a=b):=by
 apply propext
 rw[←UInt8.toNat_inj]
 omega
def ic30:IC:=sR [oP 4 (.mv (.c .nils))] (sR [oP 7 (.bsl 9 1 [.c s0]),mV 5 7] (.seq (sR [oP 6 (.mv (.c i0))] (.block 0 (.loop (.seq (sR [mV 8 6,mV 9 0,oP 10 (.lens (.t 9)),bN 11 .lss 8 10] (.cond (.t 11) .skip (.exit 0))) (.seq (.block 1 (sR [mV 14 0,mV 15 6,oP 16 (.idx (.t 14) (.t 15)),mV 17 1,bN 18 .eql 16 17] (.cond (.t 18) (.reg [mV 19 5,oP 20 (.bsl 9 1 [.c s0]),oP 21 (.app 9 1 (.t 19) (.t 20)),mV 5 21]) (.drw [0,0,2,6,0,0,32,96,240,496,0,0,3072,7168,15360,32752,65535,131071] [(0,mV 22 5),(1,mV 23 5),(2,oP 24 (.len (.t 23))),(3,oP 25 (.bin .sub (.t 24) (.c (.int .i64 1)))),(4,mV 26 5),(5,mV 27 5),(6,oP 28 (.len (.t 27))),(7,oP 29 (.bin .sub (.t 28) (.c (.int .i64 1)))),(8,oP 30 (.iad 1 (.t 26) (.t 29))),(9,lD 31 1 30),(10,mV 32 0),(11,mV 33 6),(12,oP 34 (.idx (.t 32) (.t 33))),(13,oP 35 (.bsl 5 1 [.t 34])),(14,oP 36 (.b2s (.t 35))),(15,bN 37 .add 31 36),(16,oP 38 (.iad 1 (.t 22) (.t 25))),(17,nP (.sto 1 (.t 38) (.t 37)))])))) (.reg [mV 12 6,oP 13 (.bin .add (.t 12) (.c (.int .i64 1))),mV 6 13])))))) (sR [mV 39 5,mV 4 39] .ret)))
theorem dg30:Dg Tryz.prog 30 Tryz.f30 ic30 [(.t 4)]:=⟨Tryz.func30,by kernel_rfl,by kernel_rfl⟩
theorem c30 (t:B) (c:UInt8) (hl:t.length≤100000):FnR Tryz.prog G 30 [.str t,.int .u8 (c.toNat:Int)] (.sl 1 ((cutAll c t).map fun x=>[.str x])):=by
 refine mF dg30 Tryz.ntmps30 ?_
 simp only[ic30,go_sem]
 with_reducible repeat' (first|refine br ?_ ?_<;>intro h e<;>(try simp only[e,go_sem])<;>clear e|rw[i64w (by omega)]|refine sd ?_<;>try simp only[go_sem]|fail)
 refine loopN (fun a:List B×B×Nat=>⟨getL [(0,.str t),(1,.int .u8 (c.toNat:Int)),(5,.own 1007 (a.1++[a.2.1]).length),(6,.int .i64 (a.2.2:Int))],getH [(1007,.arr 9 1 ((a.1++[a.2.1]).map fun x=>[.str x]))]⟩) (fun a=>t.length - a.2.2) (fun a=>a.2.2≤t.length∧(a.1.length≤a.2.2∧a.2.1.length≤a.2.2)∧cutAll c t=a.1++cutG c a.2.1 (t.drop a.2.2)) ([],[],0) (leQ []) ⟨Nat.zero_le _,by simp,by simp[cutG_all]⟩ ?_
 intro⟨f,l,i⟩ ⟨hi,⟨hfl,hll⟩,he⟩
 simp only at hi hfl hll he
 have hal:(f++[l]).length=f.length+1:=by simp
 have hlt:f.length<(f++[l]).length:=by omega
 have hgl:(f++[l]).getD f.length default=l:=by simp[List.getD]
 have hst:∀y:B,((f++[l]).map fun x=>[V.str x]).set f.length [V.str y]=(f++[y]).map fun x=>[V.str x]:=fun y=>by simp[List.set_append]
 have hln:∀y:B,(f++[y]).length=(f++[l]).length:=fun y=>by simp
 simp only[go_sem]
 by_cases h:(i:Int)<t.length
 ·have hil:i<t.length:=by omega
  have hd:t.drop i=t.getD i 0::t.drop (i+1):=by rw[List.drop_eq_getElem_cons hil];simp[List.getD,hil]
  rw[hd] at he
  simp only[eq_true h,go_sem]
  obtain⟨b,hbb⟩:∃b,t.getD i 0=b:=⟨_,rfl⟩
  rw[hbb] at he
  by_cases hb:b=c
  ·rw[hb,cutG_sep] at he
   generalize hacc:f++[l]=acc at *
   with_reducible repeat' (first|rw[i64w (by omega)];try simp only[go_sem,hbb,hb]|refine br ?_ ?_<;>intro h e<;>(try simp only[e,go_sem,hbb,hb])<;>clear e|refine sd ?_<;>try simp only[go_sem,hbb,hb]|fail)
   all_goals first
    | (refine⟨(acc,[],i+1),by simp only;omega,⟨by simp only;omega,⟨by simp only;omega,by simp⟩,by simp only;rw[he,←hacc];simp⟩,leN [(1007,1021)] ?_ ?_ (by simp[getN]) (by simp only[go_sem])⟩
       ·simp only[go_sem];try simp
       ·simp only[go_sem];try simp)
    | trace_state
  ·rw[cutG_byte hb] at he
   have hw1:IntKind.i64.wrap (((f++[l]).length:Int) - 1)=(f.length:Int):=by rw[i64w (by omega)];omega
   have hlen2:=hln (l++[b])
   have hst2:=hst (l++[b])
   generalize hacc:f++[l]=acc at *
   with_reducible repeat' (first|rw[i64w (by omega)];try simp only[go_sem,hbb,UInt8.ofNat_toNat,u8_eq,eq_false hb,hw1,Int.toNat_natCast,getD_mp hlt,hgl]|refine br ?_ ?_<;>intro h e<;>(try simp only[e,go_sem,hbb,UInt8.ofNat_toNat,u8_eq,eq_false hb,hw1,Int.toNat_natCast,getD_mp hlt,hgl])<;>clear e|refine sd ?_<;>try simp only[go_sem,hbb,UInt8.ofNat_toNat,u8_eq,eq_false hb,hw1,Int.toNat_natCast,getD_mp hlt,hgl]|fail)
   all_goals first
    | (refine⟨(f,l++[b],i+1),by simp only;omega,⟨by simp only;omega,⟨by simp only;omega,by simp;omega⟩,by simpa using he⟩,leN [] ?_ ?_ (by simp[getN]) (by simp only[go_sem])⟩
       ·simp only[go_sem,hlen2,hst2];try simp
       ·simp only[go_sem,hlen2,hst2];try simp)
    | trace_state
 ·simp only[eq_false h,go_sem]
  obtain rfl:i=t.length:=by omega
  rw[List.drop_length,cutG_nil] at he
  rw[he]
  with_reducible repeat' (first|refine br ?_ ?_<;>intro h e<;>(try simp only[e,go_sem])<;>clear e|rw[i64w (by omega)]|refine sd ?_<;>try simp only[go_sem]|fail)
  all_goals first|done|simp
def decP (t:B) (i:Nat):Int:=if i=0 then 0 else if i=1 then dig (t.getD 0 0) else 10*dig (t.getD 0 0)+dig (t.getD 1 0)
theorem decW_len {t:B} (h:within t.length 1 2=false):decW t = -1:=by
 rcases t with _|⟨a,_|⟨b,_|⟨c,t⟩⟩⟩
 ·rfl
 ·simp[within] at h
 ·simp[within] at h
 ·rfl
theorem decW_bad {t:B} {i:Nat} (h:within t.length 1 2=true) (hi:i<t.length) (hb:dig (t.getD i 0)<0):decW t = -1:=by
 have hd:∀b:UInt8,dig b<0→figB b 48=false:=fun b hb=>by
  have:=dig_ge b
  rw[←this]
  exact decide_eq_false (by omega)
 rw[M.within_iff] at h
 rcases t with _|⟨a,_|⟨b,_|⟨c,t⟩⟩⟩
 ·simp at h
 ·obtain rfl:i=0:=by simp at hi;omega
  simp only[decW]
  rw[hd a (by simpa using hb)]
  rfl
 ·have:i=0∨i=1:=by simp at hi;omega
  simp only[decW]
  rcases this with rfl|rfl
  ·rw[hd a (by simpa using hb)];rfl
  ·rw[hd b (by simpa using hb),Bool.and_false];rfl
 ·simp at h;omega
theorem decW_good {t:B} (h:within t.length 1 2=true) (hg:∀j,j<t.length→0≤dig (t.getD j 0)):decW t=decP t t.length:=by
 have hd:∀b:UInt8,0≤dig b→figB b 48=true∧dig b=(b.toNat:Int) - 48:=fun b hb=>by
  have h1:figB b 48=true:=by rw[←dig_ge b];exact decide_eq_true hb
  refine⟨h1, ?_⟩
  simp[dig,h1]
 rw[M.within_iff] at h
 rcases t with _|⟨a,_|⟨b,_|⟨c,t⟩⟩⟩
 ·simp at h
 ·obtain⟨h1,h2⟩:=hd a (by simpa using hg 0 (by simp))
  simp[decW,decP,h1,h2]
 ·obtain⟨h1,h2⟩:=hd a (by simpa using hg 0 (by simp))
  obtain⟨h3,h4⟩:=hd b (by simpa using hg 1 (by simp))
  simp[decW,decP,h1,h2,h3,h4]
 ·simp at h;omega
theorem decP_step {t:B} {i:Nat} (h:within t.length 1 2=true) (hi:i<t.length) (hg:∀j,j<i→0≤dig (t.getD j 0)):decP t (i+1)=10*decP t i+dig (t.getD i 0)∧0≤decP t i∧decP t i≤9:=by
 rw[M.within_iff] at h
 have h0:=dig_rng (t.getD 0 0)
 have h1:=dig_rng (t.getD 1 0)
 have e0:decP t 0=0:=rfl
 have e1:decP t 1=dig (t.getD 0 0):=rfl
 have e2:decP t 2=10*dig (t.getD 0 0)+dig (t.getD 1 0):=rfl
 have:i=0∨i=1:=by omega
 rcases this with rfl|rfl
 ·rw[e0,e1];omega
 ·have:=hg 0 (by omega)
  rw[e1,e2]
  omega
def ic99:IC:=sR [oP 2 (.mv (.c i0))] (sR [oP 3 (.mv (.c i0))] (.seq (sR [mV 5 0,oP 6 (.lens (.t 5)),oP 7 (.call 100 [.t 6,.c (.int .i64 1),.c (.int .i64 2)]),oP 8 (.un .not (.t 7))] (.cond (.t 8) (sR [oP 2 (.mv (.c (.int .i64 (-1))))] .ret) .skip)) (.seq (sR [oP 4 (.mv (.c i0))] (.block 0 (.loop (.seq (sR [mV 9 4,mV 10 0,oP 11 (.lens (.t 10)),bN 12 .lss 9 11] (.cond (.t 12) .skip (.exit 0))) (.seq (.block 1 (.seq (sR [mV 15 0,mV 16 4,oP 17 (.idx (.t 15) (.t 16)),oP 18 (.call 111 [.t 17]),oP 19 (.bin .lss (.t 18) (.c i0))] (.cond (.t 19) (sR [oP 2 (.mv (.c (.int .i64 (-1))))] .ret) .skip)) (.reg [mV 20 3,oP 21 (.bin .mul (.c (.int .i64 10)) (.t 20)),mV 22 0,mV 23 4,oP 24 (.idx (.t 22) (.t 23)),oP 25 (.call 111 [.t 24]),bN 26 .add 21 25,mV 3 26]))) (.reg [mV 13 4,oP 14 (.bin .add (.t 13) (.c (.int .i64 1))),mV 4 14])))))) (sR [mV 27 3,mV 2 27] .ret))))
theorem dg99:Dg Tryz.prog 99 Tryz.f99 ic99 [(.t 2)]:=⟨Tryz.func99,by kernel_rfl,by kernel_rfl⟩
theorem c99 (t:B) (hl:t.length≤100000):FnR Tryz.prog G 99 [.str t] (.int .i64 (decW t)):=by
 refine mF dg99 Tryz.ntmps99 ?_
 have f1:=c100 t.length 1 2
 simp only[ic99,go_sem]
 cases hw:within t.length 1 2 with
 | false =>
   rw[hw] at f1
   rw[decW_len hw]
   with_reducible repeat' (first|refine br ?_ ?_<;>intro h e<;>(try simp only[e,go_sem])<;>clear e|rw[i64w (by omega)]|refine sd ?_<;>try simp only[go_sem]|(first|refine cr (f1 ..) ?_)<;>try simp only[go_sem]|fail)
 | true =>
   rw[hw] at f1
   with_reducible repeat' (first|refine br ?_ ?_<;>intro h e<;>(try simp only[e,go_sem])<;>clear e|rw[i64w (by omega)]|refine sd ?_<;>try simp only[go_sem]|(first|refine cr (f1 ..) ?_)<;>try simp only[go_sem]|fail)
   refine loopN (fun i:Nat=>⟨getL [(0,.str t),(3,.int .i64 (decP t i)),(4,.int .i64 (i:Int))],getH []⟩) (fun i=>t.length - i) (fun i=>i≤t.length∧∀j,j<i→0≤dig (t.getD j 0)) 0 (leQ []) ⟨Nat.zero_le _,by omega⟩ ?_
   intro i ⟨hi,hg⟩
   simp only[go_sem]
   by_cases h:(i:Int)<t.length
   ·have hil:i<t.length:=by omega
    obtain⟨p1,p2,p3⟩:=decP_step hw hil hg
    have hbad:=decW_bad hw hil
    have dr:=dig_rng (t.getD i 0)
    obtain⟨b,hbb⟩:∃b,t.getD i 0=b:=⟨_,rfl⟩
    have f2:=c111 b
    simp only[eq_true h,hbb,go_sem]
    by_cases hd:dig (t.getD i 0)<0
    ·rw[hbad hd]
     rw[hbb] at hd
     with_reducible repeat' (first|refine br ?_ ?_<;>intro h e<;>(try simp only[e,go_sem,hbb,eq_true hd])<;>clear e|rw[i64w (by omega)]|refine sd ?_<;>try simp only[go_sem,hbb,eq_true hd]|(first|refine cr (f2 ..) ?_)<;>try simp only[go_sem,hbb,eq_true hd]|fail)
     all_goals first|done|exact absurd hd (by assumption)
    ·have hg':∀j,j<i+1→0≤dig (t.getD j 0):=fun j hj=>by
      rcases Nat.lt_or_ge j i with hji|hji
      ·exact hg j hji
      ·obtain rfl:j=i:=by omega
       omega
     generalize decP t i=x at *
     rw[hbb] at p1 dr hd
     with_reducible repeat' (first|rw[i64w (by omega)];try simp only[go_sem,hbb,eq_false hd]|refine br ?_ ?_<;>intro h e<;>(try simp only[e,go_sem,hbb,eq_false hd])<;>clear e|refine sd ?_<;>try simp only[go_sem,hbb,eq_false hd]|(first|refine cr (f2 ..) ?_)<;>try simp only[go_sem,hbb,eq_false hd]|fail)
     all_goals first
      | (refine⟨i+1,by omega,⟨by omega,hg'⟩, ?_⟩;simp only[p1];exact(leQ []))
      | trace_state
   ·simp only[eq_false h,go_sem]
    obtain rfl:i=t.length:=by omega
    rw[decW_good hw hg]
    with_reducible repeat' (first|refine br ?_ ?_<;>intro h e<;>(try simp only[e,go_sem])<;>clear e|rw[i64w (by omega)]|refine sd ?_<;>try simp only[go_sem]|fail)
def ic56:IC:=sR [oP 4 (.mv (.c i0))] (.seq (sR [mV 5 1,mV 6 0,oP 7 (.len (.t 6)),bN 8 .lss 5 7] (.cond (.t 8) (sR [mV 9 0,mV 10 1,oP 11 (.iad 1 (.t 9) (.t 10)),lD 12 1 11,oP 13 (.call 99 [.t 12]),mV 4 13] .ret) .skip)) (sR [oP 4 (.mv (.c (.int .i64 (-1))))] .ret))
theorem dg56:Dg Tryz.prog 56 Tryz.f56 ic56 [(.t 4)]:=⟨Tryz.func56,by kernel_rfl,by kernel_rfl⟩
theorem c56 (ws:List B) (k:Nat) (hl:ws.length≤100000) (hw:∀x∈ws,x.length≤100000):FnR Tryz.prog G 56 [.sl 1 (ws.map fun x=>[.str x]),.int .i64 (k:Int)] (.int .i64 (wordAt ws k)):=by
 refine mF dg56 Tryz.ntmps56 ?_
 simp only[ic56,go_sem]
 by_cases h:(k:Int)<ws.length
 ·have hil:k<ws.length:=by omega
  have hg:ws.getD k default=ws[k]:=by simp[List.getD,hil]
  have e:wordAt ws k=decW ws[k]:=by simp[wordAt,hil]
  have f1:=c99 ws[k] (hw _ (List.getElem_mem hil))
  rw[e]
  generalize ws[k]=x at *
  simp only[eq_true h,go_sem]
  with_reducible repeat' (first|refine br ?_ ?_<;>intro h e<;>(try simp only[e,go_sem,getD_mp hil,hg])<;>clear e|rw[i64w (by omega)]|refine sd ?_<;>try simp only[go_sem,getD_mp hil,hg]|(first|refine cr (f1 ..) ?_)<;>try simp only[go_sem,getD_mp hil,hg]|fail)
 ·have e:wordAt ws k = -1:=by
   simp only[wordAt]
   rw[List.getElem?_eq_none (by omega)]
  rw[e]
  simp only[eq_false h,go_sem]
  with_reducible repeat' (first|refine br ?_ ?_<;>intro h e<;>(try simp only[e,go_sem])<;>clear e|rw[i64w (by omega)]|refine sd ?_<;>try simp only[go_sem]|fail)
theorem dec_le2 (n:Int):(dec n).length≤2:=by
 unfold dec decN
 split<;>simp
theorem text_le5 (e:E):e.text.length≤5:=by
 have h1:=dec_le2 e.a
 have h2:=dec_le2 e.p
 unfold E.text
 split
 ·simp;omega
 ·simp
def ic35:IC:=sR [oP 1 (.box 70 (.t 0)),oP 2 (.mv (.c s0))] (.seq (sR [lA 4 7 1,oP 5 (.call 60 [.t 4]),oP 6 (.un .not (.t 5))] (.cond (.t 6) (sR [oP 2 (.mv (.c s0))] .ret) .skip)) (.seq (.drw [0,1,3,7,0,16,55,127,255,0,512,1655,4095,8191] [(0,fD 7 1 1),(1,lA 8 2 7),(2,oP 9 (.call 37 [.t 8])),(3,oP 10 (.bin .add (.t 9) (.c (.str [32])))),(4,fD 11 3 1),(5,lA 12 2 11),(6,oP 13 (.call 37 [.t 12])),(7,bN 14 .add 10 13),(8,oP 15 (.bin .add (.t 14) (.c (.str [32])))),(9,fD 16 5 1),(10,lD 17 1 16),(11,oP 18 (.call 34 [.t 17])),(12,bN 19 .add 15 18),(13,mV 3 19)]) (.seq (sR [fD 20 0 1,lD 21 1 20,oP 22 (.bin .eql (.t 21) (.c (.int .i64 2)))] (.cond (.t 22) (sR [mV 23 3,oP 24 (.bin .add (.c (.str [97,99,107,32])) (.t 23)),mV 2 24] .ret) .skip)) (sR [mV 25 3,oP 26 (.bin .add (.c (.str [100,97,116,97,32])) (.t 25)),oP 27 (.bin .add (.t 26) (.c (.str [32]))),fD 28 6 1,lD 29 1 28,bN 30 .add 27 29,mV 2 30] .ret))))
theorem dg35:Dg Tryz.prog 35 Tryz.f35 ic35 [(.t 2)]:=⟨Tryz.func35,by kernel_rfl,by kernel_rfl⟩
theorem c35 (p:Pk) (h:p.text.length≤100000):FnR Tryz.prog G 35 [.agg [.int .i64 p.kind,.int .i64 p.frm.a,.int .i64 p.frm.p,.int .i64 p.to.a,.int .i64 p.to.p,.int .i64 p.at_,.str p.text]] (.str (pktText p)):=by
 refine mF dg35 Tryz.ntmps35 ?_
 have f1:=c60 p (by omega)
 have f2:=c37 p.frm.a p.frm.p
 have f3:=c37 p.to.a p.to.p
 unfold pktText
 simp only[ic35,go_sem]
 cases hok:pkOk p with
 | false =>
   rw[hok] at f1
   with_reducible repeat' (first|refine br ?_ ?_<;>intro h e<;>(try simp only[e,go_sem])<;>clear e|rw[i64w (by omega)]|refine sd ?_<;>try simp only[go_sem]|(first|refine cr (f1 ..) ?_)<;>try simp only[go_sem]|fail)
 | true =>
   rw[hok] at f1
   have hP:=pkOk_P hok
   have ha:=hP.at_
   have f4:=c34 p.at_ (by have:=(pkOk_is hok).1;omega)
   rw[if_pos rfl]
   have t1:(E.text ⟨p.frm.a,p.frm.p⟩)=p.frm.text:=rfl
   have t2:(E.text ⟨p.to.a,p.to.p⟩)=p.to.text:=rfl
   rw[t1] at f2
   rw[t2] at f3
   have l1:=text_le5 p.frm
   have l2:=text_le5 p.to
   have l3:=dec_le2 p.at_
   generalize p.frm.text=x at *
   generalize p.to.text=y at *
   generalize dec p.at_=z at *
   by_cases hk:p.kind=2
   ·rw[if_pos hk,if_pos hk]
    with_reducible repeat' (first|refine br ?_ ?_<;>intro h e<;>(try simp only[e,go_sem,eq_true hk,zA,zC,zN,zZ,zP,zU])<;>clear e|rw[i64w (by omega)]|refine sd ?_<;>try simp only[go_sem,eq_true hk,zA,zC,zN,zZ,zP,zU]|(first|refine cr (f1 ..) ?_|refine cr (f2 ..) ?_|refine cr (f3 ..) ?_|refine cr (f4 ..) ?_)<;>try simp only[go_sem,eq_true hk,zA,zC,zN,zZ,zP,zU]|fail)
    all_goals first|done|simp
   ·rw[if_neg hk,if_neg hk]
    with_reducible repeat' (first|refine br ?_ ?_<;>intro h e<;>(try simp only[e,go_sem,eq_false hk,zA,zC,zN,zZ,zP,zU])<;>clear e|rw[i64w (by omega)]|refine sd ?_<;>try simp only[go_sem,eq_false hk,zA,zC,zN,zZ,zP,zU]|(first|refine cr (f1 ..) ?_|refine cr (f2 ..) ?_|refine cr (f3 ..) ?_|refine cr (f4 ..) ?_)<;>try simp only[go_sem,eq_false hk,zA,zC,zN,zZ,zP,zU]|fail)
    all_goals first|done|simp
theorem us_two {w:World} {O:Nat→Prop} {ρ:Nat→VL.Loc} {h:Nat→Hs} {v1 v2:V} {us:List Value} (hargs:DenArgs w O ρ h [v1,v2] us):∃u1 u2,us=[u1,u2]∧Den w O ρ h v1 u1∧Den w O ρ h v2 u2:=by
 obtain⟨h1,h2⟩:=hargs
 match us,h1 with
 | [u1,u2],_=>exact⟨u1,u2,rfl,h2 0 v1 u1 rfl rfl,h2 1 v2 u2 rfl rfl⟩
theorem mkStr_l (s:B):(mkStr s).data.toList=s:=by simp[mkStr]
theorem map_mk (ss:List B):(ss.map mkStr).map (·.data.toList)=ss:=by
 rw[List.map_map]
 induction ss with
 | nil=>rfl
 | cons s ss ih=>rw[List.map_cons,ih];simp[mkStr]
def strR (s:B):List V:=[.str s]
theorem joinR {P:Program} {f:FuncId} (hn:entr P f=true) (ss:List B) (sep:B) (hN:ss.length≤2000000)
 (h0:∀A c (W:World),Calls P f #[.slice A 0 c,.string (mkStr sep)] W fun e w'=>e=.returned (.string (mkStr []))∧w'=W)
 (h1:∀bk o c (xs:List ByteArray) (W:World),xs.length=ss.length→xs.map (·.data.toList)=ss→(∀(j:Nat) x,xs[j]?=some x→W.cell? ⟨bk,o+j,none⟩=some (.string x))→bk<W.heap.size→xs.length≤c →
   Calls P f #[.slice (some ⟨bk,o,none⟩) xs.length c,.string (mkStr sep)] W fun e w'=>e=.returned (.string (mkStr (Lib.join ss sep)))∧Below W.heap.size W w') :
 FnR P G f [.sl 1 (ss.map strR),.str sep] (.str (Lib.join ss sep)) where
 en:=hn
 ne:=⟨_,_,rfl,rfl⟩
 run:=fun W ρ ext us hg hlt hno hng r hargs=>by
  obtain⟨u,u2,rfl,hd,hd2⟩:=us_two hargs
  obtain rfl:u2=.string (mkStr sep):=inv_str hd2
  have hc:chH []=fun _=>.fresh:=by funext x;simp[chH]
  have fin:∀W',Below W.heap.size W W'→∃(u:Value) (res:V) (out:List Hs) (ρ':Nat→VL.Loc),Ending.returned (Value.string (mkStr (Lib.join ss sep)))=.returned u∧(res=.str (Lib.join ss sep)∧out=[])∧RelH ⟨W,blocks ρ (chH []),ext,0,ρ⟩ ρ' (chH out) W' ∧
   Den W' (owns ⟨W,blocks ρ (chH []),ext,0,ρ⟩ ρ' (chH out)) ρ' (chH out) res u:=fun W' hb =>
   ⟨_,_,[],fun _=>default,rfl,⟨rfl,rfl⟩,⟨hb.os,hb.tape,hb.output,hb.size,fun b hb1 _=>hb.block b hb1,fun c=>(by rw[hc];trivial),fun c hl=>(by rw[hc] at hl;cases hl),fun c c' hl=>(by rw[hc] at hl;cases hl),fun i hi=>absurd hi (Nat.not_lt_zero _)⟩,Imm.str _⟩
  have hd:Imm W (owns ⟨W,blocks ρ (chH []),ext,0,ρ⟩ ρ (chH [])) (.sl 1 (ss.map strR)) u:=hd
  generalize hr:ss.map strR=rows at hd
  have hlen:rows.length=ss.length:=by rw[←hr,List.length_map]
  cases hd with
  | esl _ A cap =>
    have e:ss=[]:=List.length_eq_zero_iff.1 hlen.symm
    subst e
    exact(h0 A cap W).mono fun e w' ⟨he,hw⟩=>by subst hw;subst he;exact fin _ (Below.refl _ _)
  | sl _ _ blk off cap cs k1 k2 k3 k4 k5 k6 k7 =>
    have hcell:∀(j:Nat) x,(ss.map mkStr)[j]?=some x→W.cell? ⟨blk,off+j,none⟩=some (.string x):=fun j x hx=>by
     rw[List.getElem?_map] at hx
     cases hs:ss[j]? with
     | none=>rw[hs] at hx;cases hx
     | some s =>
       rw[hs] at hx
       cases hx
       have hrow:rows[j]?=some (strR s):=by rw[←hr,List.getElem?_map,hs];rfl
       have hcell:=k6 j _ 0 _ hrow rfl
       have hi:=k7 j _ 0 _ hrow rfl
       rw[show j*1+0=j by omega] at hcell
       rw[hcell]
       have inv:∀x,Imm W (owns ⟨W,blocks ρ (chH []),ext,0,ρ⟩ ρ (chH [])) (.str s) x→x=.string (mkStr s):=fun x h=>by cases h;rfl
       rw[inv _ hi]
    have:=h1 blk off cap (ss.map mkStr) W (by simp) (map_mk ss) hcell k2 (by simp;omega)
    rw[show(ss.map mkStr).length=rows.length by simp[hlen]] at this
    exact this.mono fun e w' ⟨he,hb⟩=>by subst he;exact fin _ hb
theorem e92:entr Tryz.prog 92=true:=by kernel_rfl
theorem c92 (ss:List B) (sep:B) (hN:ss.length≤2000000) (hl:(Lib.join ss sep).length≤2000000):FnR Tryz.prog G 92 [.sl 1 (ss.map fun x=>[.str x]),.str sep] (.str (Lib.join ss sep)):=by
 show FnR Tryz.prog G 92 [.sl 1 (ss.map strR),.str sep] (.str (Lib.join ss sep))
 refine joinR e92 ss sep hN (fun A c W=>Any.strings_Join_none Tryz.lays156 Tryz.Builder_Extra_156 A c (mkStr sep) W) fun bk o c xs W hx he hcells hbk hcap=>?_
 have hm:(mkStr sep).data.toList=sep:=mkStr_l sep
 refine(Any.strings_Join Tryz.lays156 Tryz.Builder_Extra_156 bk o c xs (mkStr sep) W hcells hbk (by omega) hcap (by rw[he,hm];omega)).mono fun e w' ⟨h1,h2⟩=>⟨?_,h2⟩
 rw[h1,he,hm]
 rfl
theorem splitK_succ (sep:B) (sv k:Nat) (s:B):Lib.splitK sep sv (k+1) s=if Lib.index s sep == -1 then [s] else s.take ((Lib.index s sep).toNat+sv)::Lib.splitK sep sv k (s.drop ((Lib.index s sep).toNat+sep.length)):=rfl
theorem splitK_one (c:UInt8):∀(n:Nat) (s:B),s.length≤n→Lib.splitK [c] 0 (Lib.count s [c]) s=cutAll c s
 | n,s,hn=>by
   by_cases hc:c∈s
   ·obtain⟨us,bs,hs,hna⟩:=List.eq_append_cons_of_mem hc
    subst hs
    have htw:((us++c::bs).takeWhile fun b=>decide (b≠c))=us:=by
     rw[List.takeWhile_append_of_pos]
     ·simp
     ·intro x hx
      exact decide_eq_true fun e=>hna (e▸hx)
    have hi:Lib.index (us++c::bs) [c]=(us.length:Int):=by rw[index_one,if_pos hc,htw]
    have hd:(us++c::bs).drop (us.length+[c].length)=bs:=by simp[List.drop_append]
    have hct:=Lib.count_hit (by simp) hi
    rw[hd,Nat.add_comm] at hct
    match n,hn with
    | 0,hn=>simp at hn
    | n+1,hn =>
      have ih:=splitK_one c n bs (by simp at hn;omega)
      have hne:((us.length:Int) == -1)=false:=beq_eq_false_iff_ne.2 (by omega)
      rw[hct,cutAll_app,cutAll_one hna,←ih,splitK_succ,hi,hne,if_neg (by decide),Int.toNat_natCast,hd]
      simp
   ·have hi:Lib.index s [c] = -1:=by rw[index_one,if_neg hc]
    rw[Lib.count_miss hi,cutAll_one hc]
    rfl
theorem FnR.ofP {P:Program} {f:FuncId} {vs:List V} {v:V} (this:FnP P G f 0 [] vs (fun r o=>o=[]∧r=v)):FnR P G f vs v :=
 ⟨this.en,this.ne.imp fun r ⟨o,h⟩=>⟨o,h.2,h.1⟩,fun W ρ ext us a b c d e f=>(this.run W ρ ext us a b c d e f).mono fun e W' ⟨u,r,o,ρ',he,⟨h1,h2⟩,h3⟩=>⟨u,r,o,ρ',he,⟨h2,h1⟩,h3⟩⟩
theorem e44:entr Tryz.prog 44=true:=by kernel_rfl
theorem c44 (s:B) (c:UInt8) (hs:s.length≤100000):FnR Tryz.prog G 44 [.str s,.str [c]] (.sl 1 ((cutAll c s).map fun x=>[.str x])):=by
 refine FnR.ofP (FnP.lib (us:=[.string (mkStr s),.string (mkStr [c])]) e44 rfl ⟨_,rfl⟩ fun W hg=>?_)
 obtain⟨⟨m,hm⟩,_⟩:=hg
 have hsz:(mkStr s).size<4294967281:=by simp[mkStr,ByteArray.size];omega
 refine(Tryz.strings_Split (mkStr s) (mkStr [c]) m W hsz hm (by simp[mkStr,ByteArray.size])).mono fun e W' ⟨he,hw⟩=>?_
 have hlen:=Lib.splitB_all (mkStr [c]) (by simp[mkStr,ByteArray.size]) 0 _ (mkStr s) rfl
 have hx:(Lib.splitB (mkStr [c]) 0 (Lib.countB (mkStr s) (mkStr [c])) (mkStr s)).map (·.data.toList)=cutAll c s:=by
  rw[Lib.splitB_data,←splitK_one c _ s (Nat.le_refl _)]
  simp only[Lib.countB,mkStr_l]
 generalize hxs:Lib.splitB (mkStr [c]) 0 (Lib.countB (mkStr s) (mkStr [c])) (mkStr s)=xs at *
 generalize Lib.countB (mkStr s) (mkStr [c])=n at *
 have hrl:((cutAll c s).map strV).length=n+1:=by rw[←hx];simp[hlen]
 subst hw
 refine⟨(Below.refl _ _).alloc (Nat.le_refl _) _,_,_,he,rfl,fun O hO=>?_⟩
 show Imm _ O (.sl 1 ((cutAll c s).map strV)) _
 rw[←hrl]
 have row:∀(i:Nat) r (j:Nat) v,((cutAll c s).map strV)[i]?=some r→r[j]?=some v→∃x,j=0∧xs[i]?=some x∧v=.str x.data.toList:=fun i r j v hr hv=>by
  rw[←hx,List.map_map,List.getElem?_map] at hr
  cases hxi:xs[i]? with
  | none=>rw[hxi] at hr;cases hr
  | some x =>
    rw[hxi] at hr
    cases hr
    match j,hv with
    | 0,hv=>cases hv;exact⟨x,rfl,rfl,rfl⟩
    | j+1,hv=>simp[strV] at hv
 refine Imm.sl 1 _ W.heap.size 0 _ (fun i _=>.string (xs.getD i ByteArray.empty)) (fun h=>absurd (hO _ h) (Nat.lt_irrefl _)) (by simp) (by omega) (fun r hr=>?_) (Nat.le_refl _) (fun i r j v hr hv=>?_) (fun i r j v hr hv=>?_)
 ·obtain⟨x,_,rfl⟩:=List.mem_map.1 hr
  rfl
 ·obtain⟨x,rfl,h2,rfl⟩:=row i r j v hr hv
  rw[show 0+(i*1+0)=i by omega,World.cell?_alloc_new]
  simp[h2]
 ·obtain⟨x,rfl,h2,rfl⟩:=row i r j v hr hv
  have:(Value.string (xs.getD i ByteArray.empty))=.string (mkStr x.data.toList):=by simp[h2,mkStr]
  rw[this]
  exact Imm.str _
def ic132:IC:=sR [oP 4 (.mv (.c (.bool false)))] (sR [mV 5 0,oP 6 (.lens (.t 5)),mV 7 1,oP 8 (.lens (.t 7)),bN 9 .geq 6 8,mV 10 9,⟨some 11,some (10,true),.mv (.t 0)⟩,⟨some 12,some (10,true),.mv (.t 1)⟩,⟨some 13,some (10,true),.lens (.t 12)⟩,⟨some 14,some (10,true),.sls (.t 11) none (some (.t 13))⟩,⟨some 15,some (10,true),.mv (.t 1)⟩,⟨some 16,some (10,true),.bin .eql (.t 14) (.t 15)⟩,oP 17 (.pick (.t 10) (.t 16) (.c (.bool false))),mV 4 17] .ret)
theorem dg132:Dg Tryz.prog 132 Tryz.f132 ic132 [(.t 4)]:=⟨Tryz.func132,by kernel_rfl,by kernel_rfl⟩
theorem c132 (s p:B) (hs:s.length≤2000000) (hp:p.length≤2000000):FnR Tryz.prog G 132 [.str s,.str p] (.bool (p.isPrefixOf s)):=by
 refine mF dg132 Tryz.ntmps132 ?_
 simp only[ic132,go_sem]
 have key:p.isPrefixOf s=(decide ((p.length:Int)≤s.length)&&decide (s.take p.length=p)):=by
  rw[Bool.eq_iff_iff]
  simp only[List.isPrefixOf_iff_prefix,Bool.and_eq_true,decide_eq_true_eq]
  constructor
  ·intro h
   exact⟨by have:=h.length_le;omega,(List.prefix_iff_eq_take.1 h).symm⟩
  ·rintro⟨_,h⟩
   exact List.prefix_iff_eq_take.2 h.symm
 rw[key]
 by_cases h:(p.length:Int)≤s.length
 ·rw[decide_eq_true h,Bool.true_and]
  simp only[eq_true h,go_sem]
  with_reducible repeat' (first|refine br ?_ ?_<;>intro h e<;>(try simp only[e,go_sem,eq_true h,Int.toNat_natCast,List.drop_zero])<;>clear e|rw[i64w (by omega)]|refine sd ?_<;>try simp only[go_sem,eq_true h,Int.toNat_natCast,List.drop_zero]|fail)
  all_goals first|done|omega|trace_state
 ·rw[decide_eq_false h,Bool.false_and]
  simp only[eq_false h,go_sem]
  with_reducible repeat' (first|refine br ?_ ?_<;>intro h e<;>(try simp only[e,go_sem,eq_false h])<;>clear e|rw[i64w (by omega)]|refine sd ?_<;>try simp only[go_sem,eq_false h]|fail)
def ic89:IC:=sR [oP 4 (.mv (.c s0))] (.seq (sR [mV 5 0,mV 6 1,oP 7 (.call 132 [.t 5,.t 6])] (.cond (.t 7) (sR [mV 8 0,mV 9 1,oP 10 (.lens (.t 9)),oP 11 (.sls (.t 8) (some (.t 10)) none),mV 4 11] .ret) .skip)) (sR [mV 12 0,mV 4 12] .ret))
theorem dg89:Dg Tryz.prog 89 Tryz.f89 ic89 [(.t 4)]:=⟨Tryz.func89,by kernel_rfl,by kernel_rfl⟩
theorem c89 (s p:B) (hs:s.length≤2000000) (hp:p.length≤2000000):FnR Tryz.prog G 89 [.str s,.str p] (.str (if p.isPrefixOf s then s.drop p.length else s)):=by
 refine mF dg89 Tryz.ntmps89 ?_
 have f1:=c132 s p hs hp
 simp only[ic89,go_sem]
 cases h:p.isPrefixOf s with
 | false =>
   rw[h] at f1
   rw[if_neg (by simp)]
   with_reducible repeat' (first|refine br ?_ ?_<;>intro h e<;>(try simp only[e,go_sem])<;>clear e|rw[i64w (by omega)]|refine sd ?_<;>try simp only[go_sem]|(first|refine cr (f1 ..) ?_)<;>try simp only[go_sem]|fail)
 | true =>
   have hl:=(List.isPrefixOf_iff_prefix.1 h).length_le
   have hle:(p.length:Int)≤s.length:=by omega
   rw[h] at f1
   rw[if_pos rfl]
   with_reducible repeat' (first|refine br ?_ ?_<;>intro h e<;>(try simp only[e,go_sem,eq_true hle,Int.toNat_natCast])<;>clear e|rw[i64w (by omega)]|refine sd ?_<;>try simp only[go_sem,eq_true hle,Int.toNat_natCast]|(first|refine cr (f1 ..) ?_)<;>try simp only[go_sem,eq_true hle,Int.toNat_natCast]|fail)
   all_goals first|done|omega|(rw[List.take_length])|trace_state
def ic48:IC:=sR [oP 4 (.mv (.c s0))] (sR [mV 5 0,mV 6 1,oP 7 (.call 89 [.t 5,.t 6]),mV 4 7] .ret)
theorem dg48:Dg Tryz.prog 48 Tryz.f48 ic48 [(.t 4)]:=⟨Tryz.func48,by kernel_rfl,by kernel_rfl⟩
theorem c48 (s p:B) (hs:s.length≤2000000) (hp:p.length≤2000000):FnR Tryz.prog G 48 [.str s,.str p] (.str (if p.isPrefixOf s then s.drop p.length else s)):=by
 refine mF dg48 Tryz.ntmps48 ?_
 have f1:=c89 s p hs hp
 simp only[ic48,go_sem]
 with_reducible repeat' (first|refine br ?_ ?_<;>intro h e<;>(try simp only[e,go_sem])<;>clear e|rw[i64w (by omega)]|refine sd ?_<;>try simp only[go_sem]|(first|refine cr (f1 ..) ?_)<;>try simp only[go_sem]|fail)
theorem join_nl:∀(xs:List B),xs≠[]→Lib.join xs [10]++[10]=joinL xs
 | [],h=>absurd rfl h
 | x::r,_=>by
   rw[Lib.join_cons]
   have:∀r:List B,Lib.joinTail [10] r++[10]=10::joinL r:=fun r=>by
    induction r with
    | nil=>rfl
    | cons y r ih =>
      have e:Lib.joinTail [10] (y::r)=10::(y++Lib.joinTail [10] r):=by simp[Lib.joinTail]
      rw[e]
      simp only[List.cons_append,List.append_assoc,ih]
      simp[joinL]
   rw[List.append_assoc,this]
   simp[joinL]
theorem joinL_app (a b:List B):joinL (a++b)=joinL a++joinL b:=by simp[joinL]
theorem joinL_len:∀(l:List B) (k:Nat),(∀x∈l,x.length≤k)→(joinL l).length≤l.length*(k+1)
 | [],_,_=>by simp[joinL]
 | x::l,k,h=>by
   have ih:=joinL_len l k fun y hy=>h y (List.mem_cons_of_mem _ hy)
   have hx:=h x (List.mem_cons_self ..)
   have e:joinL (x::l)=x++10::joinL l:=by simp[joinL]
   rw[e,zA,zC,zC,Nat.add_mul]
   omega
theorem dec_nat (n:Nat):dec (n:Int)=decN n:=by simp[dec]
def ic46:IC:=sR [oP 4 (.mv (.c i0))] (.seq (sR [mV 8 1,mV 9 0,oP 10 (.len (.t 9)),bN 11 .geq 8 10,mV 12 11,⟨some 13,some (12,false),.mv (.t 0)⟩,⟨some 14,some (12,false),.mv (.t 1)⟩,⟨some 15,some (12,false),.iad 1 (.t 13) (.t 14)⟩,⟨some 16,some (12,false),.ld 1 false (.t 15)⟩,⟨some 17,some (12,false),.lens (.t 16)⟩,⟨some 18,some (12,false),.call 76 [.t 17,.c (.int .i64 1),.c (.int .i64 2)]⟩,⟨some 19,some (12,false),.un .not (.t 18)⟩,oP 20 (.pick (.t 12) (.c (.bool true)) (.t 19))] (.cond (.t 20) (sR [oP 4 (.mv (.c (.int .i64 (-1))))] .ret) .skip)) (sR [oP 5 (.mv (.c i0))] (.seq (sR [mV 21 0,mV 22 1,oP 23 (.iad 1 (.t 21) (.t 22)),lD 24 1 23,oP 25 (.s2b (.t 24)),oP 26 (.len (.t 25)),oP 27 (.mv (.c i0))] (.block 0 (.loop (sR [bN 28 .lss 27 26] (.seq (.cond (.t 28) .skip (.exit 0)) (.seq (.block 1 (sR [oP 29 (.iad 1 (.t 25) (.t 27)),lD 30 1 29,mV 7 30] (.seq (sR [mV 31 7,oP 32 (.call 85 [.t 31,.c (.int .u8 48)]),oP 33 (.un .not (.t 32))] (.cond (.t 33) (sR [oP 4 (.mv (.c (.int .i64 (-1))))] .ret) .skip)) (.reg [mV 34 5,oP 35 (.bin .mul (.c (.int .i64 10)) (.t 34)),mV 36 7,oP 37 (.bin .sub (.t 36) (.c (.int .u8 48))),oP 38 (.cvi .i64 (.t 37)),bN 39 .add 35 38,mV 5 39])))) (.reg [oP 40 (.bin .add (.t 27) (.c (.int .i64 1))),mV 27 40]))))))) (sR [mV 41 5,mV 4 41] .ret))))
theorem dg46:Dg Tryz.prog 46 Tryz.f46 ic46 [(.t 4)]:=⟨Tryz.func46,by kernel_rfl,by kernel_rfl⟩
theorem c46 (ws:List B) (k:Nat) (hl:ws.length≤100000) (hw:∀x∈ws,x.length≤100000):FnR Tryz.prog G 46 [.sl 1 (ws.map fun x=>[.str x]),.int .i64 (k:Int)] (.int .i64 (wordAt ws k)):=by
 refine mF dg46 Tryz.ntmps46 ?_
 simp only[ic46,go_sem]
 by_cases h:(k:Int)<ws.length
 rotate_left
 ·have e:wordAt ws k = -1:=by
   simp only[wordAt]
   rw[List.getElem?_eq_none (by omega)]
  have h':(ws.length:Int)≤k:=by omega
  rw[e]
  simp only[eq_true h',go_sem]
  with_reducible repeat' (first|refine br ?_ ?_<;>intro h e<;>(try simp only[e,go_sem])<;>clear e|rw[i64w (by omega)]|refine sd ?_<;>try simp only[go_sem]|fail)
 have hil:k<ws.length:=by omega
 have h':¬(ws.length:Int)≤k:=by omega
 have hg:ws.getD k default=ws[k]:=by simp[List.getD,hil]
 have e:wordAt ws k=decW ws[k]:=by simp[wordAt,hil]
 have hxl:=hw _ (List.getElem_mem hil)
 rw[e]
 generalize ws[k]=x at *
 have f1:=c76 x.length 1 2
 cases hwi:within x.length 1 2 with
 | false =>
   rw[hwi] at f1
   rw[decW_len hwi]
   simp only[eq_false h',go_sem]
   with_reducible repeat' (first|refine br ?_ ?_<;>intro h e<;>(try simp only[e,go_sem,getD_mp hil,hg])<;>clear e|rw[i64w (by omega)]|refine sd ?_<;>try simp only[go_sem,getD_mp hil,hg]|(first|refine cr (f1 ..) ?_)<;>try simp only[go_sem,getD_mp hil,hg]|fail)
 | true =>
   rw[hwi] at f1
   simp only[eq_false h',go_sem]
   with_reducible repeat' (first|refine br ?_ ?_<;>intro h e<;>(try simp only[e,go_sem,getD_mp hil,hg])<;>clear e|rw[i64w (by omega)]|refine sd ?_<;>try simp only[go_sem,getD_mp hil,hg]|(first|refine cr (f1 ..) ?_)<;>try simp only[go_sem,getD_mp hil,hg]|fail)
   refine loopN (fun i:Nat=>⟨getL [(5,.int .i64 (decP x i)),(25,.sl 1 (x.map fun b=>[.int .u8 (b.toNat:Int)])),(26,.int .i64 x.length),(27,.int .i64 (i:Int))],getH []⟩) (fun i=>x.length - i) (fun i=>i≤x.length∧∀j,j<i→0≤dig (x.getD j 0)) 0 (leQ []) ⟨Nat.zero_le _,by omega⟩ ?_
   intro i ⟨hi,hgd⟩
   simp only[go_sem]
   by_cases hh:(i:Int)<x.length
   ·have hxi:i<x.length:=by omega
    obtain⟨p1,p2,p3⟩:=decP_step hwi hxi hgd
    have hbad:=decW_bad hwi hxi
    have hb0:x.getD i default=x.getD i 0:=by simp[List.getD,hxi]
    have hge:=dig_ge (x.getD i 0)
    obtain⟨b,hbb⟩:∃b,x.getD i 0=b:=⟨_,rfl⟩
    have hb1:x.getD i default=b:=hb0.trans hbb
    rw[hbb] at hge hbad p1
    have f2:=fig48 b
    cases hf:figB b 48 with
    | false =>
      rw[hf] at f2 hge
      rw[hbad (by have:=of_decide_eq_false hge;omega)]
      simp only[eq_true hh,go_sem]
      refine effG (by omega) ?_
      simp only[go_sem,hb1]
      with_reducible repeat' (first|refine br ?_ ?_<;>intro h e<;>(try simp only[e,go_sem])<;>clear e|rw[i64w (by omega)]|refine sd ?_<;>try simp only[go_sem]|(first|refine cr (f2 ..) ?_)<;>try simp only[go_sem]|fail)
    | true =>
      rw[hf] at f2 hge
      have hd0:=of_decide_eq_true hge
      have hdb:dig b=(b.toNat:Int) - 48:=by simp[dig,hf]
      have dr:=dig_rng b
      have hu:IntKind.u8.wrap ((b.toNat:Int) - 48)=dig b:=by rw[u8w (by omega),hdb]
      have hu2:IntKind.i64.wrap (dig b)=dig b:=i64w (by omega)
      have hg':∀j,j<i+1→0≤dig (x.getD j 0):=fun j hj=>by
       rcases Nat.lt_or_ge j i with hji|hji
       ·exact hgd j hji
       ·obtain rfl:j=i:=by omega
        rw[hbb];exact hd0
      simp only[eq_true hh,go_sem]
      refine effG (by omega) ?_
      simp only[go_sem,hb1]
      generalize decP x i=y at *
      have hu3:IntKind.i64.wrap (10*y)=10*y:=i64w (by omega)
      have hu4:IntKind.i64.wrap (10*y+dig b)=10*y+dig b:=i64w (by omega)
      with_reducible repeat' (first|rw[i64w (by omega)];try simp only[go_sem,hu,hu2,hu3,hu4]|refine br ?_ ?_<;>intro h e<;>(try simp only[e,go_sem,hu,hu2,hu3,hu4])<;>clear e|refine sd ?_<;>try simp only[go_sem,hu,hu2,hu3,hu4]|(first|refine cr (f2 ..) ?_)<;>try simp only[go_sem,hu,hu2,hu3,hu4]|fail)
      all_goals first
       | (refine⟨i+1,by omega,⟨by omega,hg'⟩, ?_⟩;simp only[p1,hu3,hu4];exact(leQ []))
       | trace_state
   ·simp only[eq_false hh,go_sem]
    obtain rfl:i=x.length:=by omega
    rw[decW_good hwi hgd]
    with_reducible repeat' (first|refine br ?_ ?_<;>intro h e<;>(try simp only[e,go_sem])<;>clear e|rw[i64w (by omega)]|refine sd ?_<;>try simp only[go_sem]|fail)
def ic51:IC:=sR [oP 2 (.mv (.c s0))] (sR [mV 3 0,mV 4 0,oP 5 (.len (.t 4)),oP 6 (.call 27 [.t 5]),oP 7 (.bsl 9 1 [.t 6]),oP 8 (.app 9 1 (.t 3) (.t 7)),oP 9 (.call 92 [.t 8,.c (.str [10])]),oP 10 (.bin .add (.t 9) (.c (.str [10]))),mV 2 10] .ret)
theorem dg51:Dg Tryz.prog 51 Tryz.f51 ic51 [(.t 2)]:=⟨Tryz.func51,by kernel_rfl,by kernel_rfl⟩
theorem o51 (ls:List B) (hl:ls.length≤20) (hx:∀x∈ls,x.length≤1000):FnP Tryz.prog G 51 0 [.arr 9 1 (ls.map fun x=>[.str x])] [.own 0 ls.length] (fun r o=>r=.str (joinL ls++(decN ls.length++[10]))∧o=[]):=by
 refine mP dg51 Tryz.ntmps51 ⟨_,_,rfl,rfl⟩ ?_
 have hne:ls++[decN ls.length]≠[]:=by simp
 have hlen:=joinL_len (ls++[decN ls.length]) 1000 (fun x hx'=>by
  rcases List.mem_append.1 hx' with h|h
  ·exact hx x h
  ·simp only[List.mem_singleton] at h
   subst h
   have:=dec_le2 (ls.length:Int)
   rw[dec_nat] at this
   omega)
 have hj:=join_nl _ hne
 have e:joinL ls++(decN ls.length++[10])=joinL (ls++[decN ls.length]):=by rw[joinL_app];simp[joinL]
 rw[e,←hj]
 rw[←hj] at hlen
 simp only[zA,zC,zN] at hlen
 have hm:(ls.length+(0+1))*(1000+1)≤21*1001:=Nat.mul_le_mul_right _ (by omega)
 have f1:=c27 (ls.length:Int) (by omega)
 rw[dec_nat] at f1
 have f2:=c92 (ls++[decN ls.length]) [10] (by simp;omega) (by omega)
 generalize Lib.join (ls++[decN ls.length]) [10]=J at *
 generalize hd:decN ls.length=d at *
 simp only[ic51,go_sem]
 with_reducible repeat' (first|refine br ?_ ?_<;>intro h e<;>(try simp only[e,go_sem])<;>clear e|rw[i64w (by omega)]|refine sd ?_<;>try simp only[go_sem]|(first|refine cr (f1 ..) ?_)<;>try simp only[go_sem]|fail)
 refine callF f2 [1008] true (by simp only[go_sem];first|done|simp) (by simp only[List.mem_singleton];rintro c rfl;simp only[go_sem]) rfl (.inl rfl) ?_
 simp only[go_sem]
 with_reducible repeat' (first|refine br ?_ ?_<;>intro h e<;>(try simp only[e,go_sem])<;>clear e|rw[i64w (by omega)]|refine sd ?_<;>try simp only[go_sem]|fail)
 all_goals first
  | done
  | exact retN (.str (J++[10])) [] [] (by simp only[go_sem]) ⟨rfl,rfl⟩ (by simp only[go_sem]) (by simp[argH]) (by simp only[go_sem])
  | trace_state
theorem pktText_join (p:Pk) (h:pkOk p=true):pktText p=Lib.join ((if p.kind=1 then [[100,97,116,97],p.frm.text,p.to.text,dec p.at_,p.text] else [[97,99,107],p.frm.text,p.to.text,dec p.at_]):List B) [32]:=by
 have hk:=(pkOk_is h).2
 unfold pktText
 rw[if_pos h]
 rcases hk with⟨hk,_⟩|⟨hk,_⟩
 ·rw[hk]
  simp[Lib.join_cons,Lib.joinTail]
 ·rw[hk]
  simp[Lib.join_cons,Lib.joinTail]
theorem pktText_len (p:Pk):(pktText p).length≤p.text.length+30:=by
 have l1:=text_le5 p.frm
 have l2:=text_le5 p.to
 have l3:=dec_le2 p.at_
 unfold pktText
 split
 ·simp only[zA,zC]
  split<;>simp<;>omega
 ·simp
def ic52:IC:=sR [oP 1 (.box 70 (.t 0)),oP 2 (.mv (.c s0))] (.seq (sR [lA 4 7 1,oP 5 (.call 83 [.t 4]),oP 6 (.un .not (.t 5))] (.cond (.t 6) (sR [oP 2 (.mv (.c s0))] .ret) .skip)) (.seq (.drw [0,1,3,0,8,31,0,64,255,511,1023] [(0,fD 7 1 1),(1,lA 8 2 7),(2,oP 9 (.call 50 [.t 8])),(3,fD 10 3 1),(4,lA 11 2 10),(5,oP 12 (.call 50 [.t 11])),(6,fD 13 5 1),(7,lD 14 1 13),(8,oP 15 (.call 27 [.t 14])),(9,oP 16 (.bsl 9 1 [.c (.str [97,99,107]),.t 9,.t 12,.t 15])),(10,mV 3 16)]) (.seq (sR [fD 17 0 1,lD 18 1 17,oP 19 (.bin .eql (.t 18) (.c (.int .i64 1)))] (.cond (.t 19) (sR [mV 20 3,oP 21 (.iad 1 (.t 20) (.c i0)),nP (.sto 1 (.t 21) (.c (.str [100,97,116,97])))] (.reg [mV 22 3,fD 23 6 1,lD 24 1 23,oP 25 (.bsl 9 1 [.t 24]),oP 26 (.app 9 1 (.t 22) (.t 25)),mV 3 26])) .skip)) (sR [mV 27 3,oP 28 (.call 92 [.t 27,.c (.str [32])]),mV 2 28] .ret))))
theorem dg52:Dg Tryz.prog 52 Tryz.f52 ic52 [(.t 2)]:=⟨Tryz.func52,by kernel_rfl,by kernel_rfl⟩
theorem c52 (p:Pk) (h:p.text.length≤100000):FnR Tryz.prog G 52 [.agg [.int .i64 p.kind,.int .i64 p.frm.a,.int .i64 p.frm.p,.int .i64 p.to.a,.int .i64 p.to.p,.int .i64 p.at_,.str p.text]] (.str (pktText p)):=by
 refine mF dg52 Tryz.ntmps52 ?_
 have f1:=c83 p (by omega)
 have f2:=c50 p.frm.a p.frm.p
 have f3:=c50 p.to.a p.to.p
 have hln:=pktText_len p
 simp only[ic52,go_sem]
 cases hok:pkOk p with
 | false =>
   rw[hok] at f1
   have e:pktText p=[]:=by unfold pktText;rw[hok];rfl
   rw[e]
   with_reducible repeat' (first|refine br ?_ ?_<;>intro h e<;>(try simp only[e,go_sem])<;>clear e|rw[i64w (by omega)]|refine sd ?_<;>try simp only[go_sem]|(first|refine cr (f1 ..) ?_)<;>try simp only[go_sem]|fail)
 | true =>
   rw[hok] at f1
   have f4:=c27 p.at_ (by have:=(pkOk_is hok).1;omega)
   have hj:=pktText_join p hok
   have t1:(E.text ⟨p.frm.a,p.frm.p⟩)=p.frm.text:=rfl
   have t2:(E.text ⟨p.to.a,p.to.p⟩)=p.to.text:=rfl
   rw[t1] at f2
   rw[t2] at f3
   rw[hj] at hln ⊢
   clear hj
   generalize p.frm.text=x at *
   generalize p.to.text=y at *
   generalize dec p.at_=z at *
   by_cases hk:p.kind=1
   ·rw[if_pos hk] at hln ⊢
    have f5:=c92 [[100,97,116,97],x,y,z,p.text] [32] (by simp) (by omega)
    with_reducible repeat' (first|refine br ?_ ?_<;>intro h e<;>(try simp only[e,go_sem,eq_true hk])<;>clear e|rw[i64w (by omega)]|refine sd ?_<;>try simp only[go_sem,eq_true hk]|(first|refine cr (f1 ..) ?_|refine cr (f2 ..) ?_|refine cr (f3 ..) ?_|refine cr (f4 ..) ?_)<;>try simp only[go_sem,eq_true hk]|fail)
    refine callF f5 [1026] true (by simp only[go_sem];first|done|simp) (by simp only[List.mem_singleton];rintro c rfl;simp only[go_sem]) rfl (.inl rfl) ?_
    simp only[go_sem]
    with_reducible repeat' (first|refine br ?_ ?_<;>intro h e<;>(try simp only[e,go_sem])<;>clear e|rw[i64w (by omega)]|refine sd ?_<;>try simp only[go_sem]|fail)
   ·rw[if_neg hk] at hln ⊢
    have f5:=c92 [[97,99,107],x,y,z] [32] (by simp) (by omega)
    with_reducible repeat' (first|refine br ?_ ?_<;>intro h e<;>(try simp only[e,go_sem,eq_false hk])<;>clear e|rw[i64w (by omega)]|refine sd ?_<;>try simp only[go_sem,eq_false hk]|(first|refine cr (f1 ..) ?_|refine cr (f2 ..) ?_|refine cr (f3 ..) ?_|refine cr (f4 ..) ?_)<;>try simp only[go_sem,eq_false hk]|fail)
    refine callF f5 [1016] true (by simp only[go_sem];first|done|simp) (by simp only[List.mem_singleton];rintro c rfl;simp only[go_sem]) rfl (.inl rfl) ?_
    simp only[go_sem]
    with_reducible repeat' (first|refine br ?_ ?_<;>intro h e<;>(try simp only[e,go_sem])<;>clear e|rw[i64w (by omega)]|refine sd ?_<;>try simp only[go_sem]|fail)
theorem words_1 {l:List B} (h:l.length=4):∃a b c d,l=[a,b,c,d]:=by
 rcases l with _|⟨a,_|⟨b,_|⟨c,_|⟨d,_|⟨e,l⟩⟩⟩⟩⟩<;>simp at h
 exact⟨a,b,c,d,rfl⟩
theorem words_2 {l:List B} (h:l.length=5):∃a b c d e,l=[a,b,c,d,e]:=by
 rcases l with _|⟨a,_|⟨b,_|⟨c,_|⟨d,_|⟨e,_|⟨f,l⟩⟩⟩⟩⟩⟩<;>simp at h
 exact⟨a,b,c,d,e,rfl⟩
theorem readI_4 {t:B} {a b c d:B} (h:cutAll 32 t=[a,b,c,d]) (n:Int) (ok:Bool) (hl:¬70<t.length):pktReadI t n ok=if(endRead b).isSome=true∧(endRead c).isSome=true∧ok=true∧pkOk ⟨if a=[100,97,116,97] then 1 else 2,(endRead b).getD .zero,(endRead c).getD .zero,n,[]⟩=true∧pktText ⟨if a=[100,97,116,97] then 1 else 2,(endRead b).getD .zero,(endRead c).getD .zero,n,[]⟩=t then some ⟨if a=[100,97,116,97] then 1 else 2,(endRead b).getD .zero,(endRead c).getD .zero,n,[]⟩ else none:=by
 unfold pktReadI
 simp only[h]
 rw[if_neg (by simp;omega)]
 rfl
theorem readI_5 {t:B} {a b c d e:B} (h:cutAll 32 t=[a,b,c,d,e]) (n:Int) (ok:Bool) (hl:¬70<t.length):pktReadI t n ok=if(endRead b).isSome=true∧(endRead c).isSome=true∧ok=true∧pkOk ⟨if a=[100,97,116,97] then 1 else 2,(endRead b).getD .zero,(endRead c).getD .zero,n,e⟩=true∧pktText ⟨if a=[100,97,116,97] then 1 else 2,(endRead b).getD .zero,(endRead c).getD .zero,n,e⟩=t then some ⟨if a=[100,97,116,97] then 1 else 2,(endRead b).getD .zero,(endRead c).getD .zero,n,e⟩ else none:=by
 unfold pktReadI
 simp only[h]
 rw[if_neg (by simp;omega)]
 rfl
theorem read_bad {t:B} (h:70<t.length∨within ((cutAll 32 t).length:Int) 4 5=false):pktRead t=none:=by
 unfold pktRead
 rcases h with h|h
 ·rw[if_pos h]
 ·split
  ·rfl
  ·split
   ·rename_i he;rw[he] at h;simp[within] at h
   ·rename_i he;rw[he] at h;simp[within] at h
   ·rfl
def ic47:IC:=sR [oP 2 (.alloc 70 [i0,i0,i0,i0,i0,i0,s0]),oP 3 (.mv (.c (.bool false)))] (sR [mV 12 0,oP 13 (.call 44 [.t 12,.c (.str [32])]),mV 4 13] (.seq (sR [mV 14 0,oP 15 (.lens (.t 14)),oP 16 (.bin .gtr (.t 15) (.c (.int .i64 70))),mV 17 16,⟨some 18,some (17,false),.mv (.t 4)⟩,⟨some 19,some (17,false),.len (.t 18)⟩,⟨some 20,some (17,false),.call 76 [.t 19,.c (.int .i64 4),.c (.int .i64 5)]⟩,⟨some 21,some (17,false),.un .not (.t 20)⟩,oP 22 (.pick (.t 17) (.c (.bool true)) (.t 21))] (.cond (.t 22) (sR [oP 23 (.build [i0,i0,i0,i0,i0,i0,s0] []),nP (.sto 7 (.t 2) (.t 23)),oP 3 (.mv (.c (.bool false)))] .ret) .skip)) (sR [oP 24 (.build [i0,i0,i0,i0,i0,i0,s0] [(0,(1,.c (.int .i64 2)))]),oP 5 (.alloc 70 [i0,i0,i0,i0,i0,i0,s0]),nP (.sto 7 (.t 5) (.t 24))] (.seq (sR [mV 25 4,oP 26 (.iad 1 (.t 25) (.c i0)),lD 27 1 26,oP 28 (.bin .eql (.t 27) (.c (.str [100,97,116,97])))] (.cond (.t 28) (.reg [fD 29 0 5,nP (.sto 1 (.t 29) (.c (.int .i64 1)))]) .skip)) (sR [mV 31 4,oP 32 (.iad 1 (.t 31) (.c (.int .i64 1))),lD 33 1 32,oP 34 (.call 86 [.t 33]),mV 30 34,eX 35 30 0,eX 36 30 1,oP 6 (.alloc 45 [i0,i0]),nP (.sto 2 (.t 6) (.t 35)),mV 7 36] (sR [mV 38 4,oP 39 (.iad 1 (.t 38) (.c (.int .i64 2))),lD 40 1 39,oP 41 (.call 86 [.t 40]),mV 37 41,eX 42 37 0,eX 43 37 1,oP 8 (.alloc 45 [i0,i0]),nP (.sto 2 (.t 8) (.t 42)),mV 9 43] (sR [mV 45 4,oP 46 (.iad 1 (.t 45) (.c (.int .i64 3))),lD 47 1 46,oP 48 (.call 87 [.t 47]),mV 44 48,eX 49 44 0,eX 50 44 1,mV 10 49,mV 11 50] (.seq (.drw [0,0,0,1,9,27,59,127,255] [(0,lA 51 2 6),(1,lA 52 2 8),(2,mV 53 10),(3,fD 54 1 5),(4,nP (.sto 2 (.t 54) (.t 51))),(5,fD 55 3 5),(6,nP (.sto 2 (.t 55) (.t 52))),(7,fD 56 5 5),(8,nP (.sto 1 (.t 56) (.t 53)))]) (.seq (sR [mV 57 4,oP 58 (.len (.t 57)),oP 59 (.bin .eql (.t 58) (.c (.int .i64 5)))] (.cond (.t 59) (.reg [mV 60 4,oP 61 (.iad 1 (.t 60) (.c (.int .i64 4))),lD 62 1 61,oP 63 (.call 88 [.t 62]),fD 64 6 5,nP (.sto 1 (.t 64) (.t 63))]) .skip)) (.seq (sR [mV 65 7,oP 66 (.un .not (.t 65)),mV 67 66,⟨some 68,some (67,false),.mv (.t 9)⟩,⟨some 69,some (67,false),.un .not (.t 68)⟩,oP 70 (.pick (.t 67) (.c (.bool true)) (.t 69)),mV 71 70,⟨some 72,some (71,false),.mv (.t 11)⟩,⟨some 73,some (71,false),.isn true (.t 72)⟩,oP 74 (.pick (.t 71) (.c (.bool true)) (.t 73)),mV 75 74,⟨some 76,some (75,false),.ld 7 true (.t 5)⟩,⟨some 77,some (75,false),.call 83 [.t 76]⟩,⟨some 78,some (75,false),.un .not (.t 77)⟩,oP 79 (.pick (.t 75) (.c (.bool true)) (.t 78)),mV 80 79,⟨some 81,some (80,false),.ld 7 true (.t 5)⟩,⟨some 82,some (80,false),.call 52 [.t 81]⟩,⟨some 83,some (80,false),.mv (.t 0)⟩,⟨some 84,some (80,false),.bin .neq (.t 82) (.t 83)⟩,oP 85 (.pick (.t 80) (.c (.bool true)) (.t 84))] (.cond (.t 85) (sR [oP 86 (.build [i0,i0,i0,i0,i0,i0,s0] []),nP (.sto 7 (.t 2) (.t 86)),oP 3 (.mv (.c (.bool false)))] .ret) .skip)) (sR [lA 87 7 5,nP (.sto 7 (.t 2) (.t 87)),oP 3 (.mv (.c (.bool true)))] .ret)))))))))))
theorem dg47:Dg Tryz.prog 47 Tryz.f47 ic47 [(.cell 2 7 true),(.t 3)]:=⟨Tryz.func47,by kernel_rfl,by kernel_rfl⟩
set_option maxHeartbeats 4000000 in
theorem c47 (t:B) (hl:t.length≤100000):FnR Tryz.prog G 47 [.str t] (.tup [.agg (Pk.row ((pktRead t).getD .zero)),.bool (pktRead t).isSome]):=by
 refine mF dg47 Tryz.ntmps47 ?_
 have fs:=c44 t 32 hl
 have hln:=cutAll_len 32 t
 have hmem:=cutAll_mem 32 t
 have hbad:=read_bad (t:=t)
 have hI:=fun a ok=>pktReadI_eq (t:=t) (a:=a) (ok:=ok)
 have h4:=fun a b c d h=>@readI_4 t a b c d h
 have h5:=fun a b c d e h=>@readI_5 t a b c d e h
 generalize hws:cutAll 32 t=ws at *
 have fw:=c76 ws.length 4 5
 simp only[ic47,go_sem]
 by_cases h70:(70:Int)<t.length
 ·rw[hbad (.inl (by omega))]
  with_reducible repeat' (first|refine br ?_ ?_<;>intro h e<;>(try simp only[e,go_sem,eq_true h70])<;>clear e|rw[i64w (by omega)]|refine sd ?_<;>try simp only[go_sem,eq_true h70]|(first|refine cr (fs ..) ?_|refine cr (fw ..) ?_)<;>try simp only[go_sem,eq_true h70]|fail)
  all_goals first|done|simp[Pk.zero,E.zero]
 have h70':¬70<t.length:=by omega
 cases hw:within (ws.length:Int) 4 5 with
 | false =>
   rw[hw] at fw
   rw[hbad (.inr hw)]
   with_reducible repeat' (first|refine br ?_ ?_<;>intro h e<;>(try simp only[e,go_sem,eq_false h70])<;>clear e|rw[i64w (by omega)]|refine sd ?_<;>try simp only[go_sem,eq_false h70]|(first|refine cr (fs ..) ?_|refine cr (fw ..) ?_)<;>try simp only[go_sem,eq_false h70]|fail)
   all_goals first|done|simp[Pk.zero,E.zero]
 | true =>
   rw[hw] at fw
   have hw:=M.within_iff.1 hw
   clear hbad
   rcases(show ws.length=4∨ws.length=5 by omega) with h|h
   ·obtain⟨w0,w1,w2,w3,rfl⟩:=words_1 h
    have m1:=hmem w1 (by simp)
    have m2:=hmem w2 (by simp)
    have m3:=hmem w3 (by simp)
    have e1:=c86 w1 (by omega)
    have e2:=c86 w2 (by omega)
    replace h4:=h4 w0 w1 w2 w3 rfl
    unfold rdV at e1 e2
    have fw:FnR Tryz.prog G 76 [.int .i64 4,.int .i64 4,.int .i64 5] (.bool true):=c76 4 4 5
    generalize hb1:(endRead w1).isSome=b1 at *
    generalize hE1:(endRead w1).getD .zero=E1 at *
    generalize hb2:(endRead w2).isSome=b2 at *
    generalize hE2:(endRead w2).getD .zero=E2 at *
    by_cases hd:w0=[100,97,116,97]
    ·simp only[if_pos hd] at h4
     with_reducible repeat' (first|refine br ?_ ?_<;>intro h e<;>(try simp only[e,go_sem,eq_false h70,eq_true hd,iadG_e,zC,zN,List.map_cons,List.map_nil])<;>clear e|rw[i64w (by omega)]|refine sd ?_<;>try simp only[go_sem,eq_false h70,eq_true hd,iadG_e,zC,zN,List.map_cons,List.map_nil]|(first|refine cr (fs ..) ?_|refine cr (fw ..) ?_|refine cr (e1 ..) ?_|refine cr (e2 ..) ?_)<;>try simp only[go_sem,eq_false h70,eq_true hd,iadG_e,zC,zN,List.map_cons,List.map_nil]|fail)
     refine callO (c87 w3 (by omega)) [] 48 0 (by simp only[go_sem];first|done|simp) (by simp) (by rintro _ _ ⟨rfl,_⟩;simp) (by intro i hi;omega) ?_
     rintro _ _ ⟨rfl,(⟨n,rfl,hn⟩|⟨n,rfl,hn⟩)⟩
     ·have hr:=hI n true (fun k k0 k9 hk=>⟨hn k k0 (by omega) hk,rfl⟩)
      rw[h4 n true h70'] at hr
      rw[←hr]
      clear hr hI h4 h5 hn
      have fc:=c83 ⟨1,E1,E2,n,[]⟩ (by simp only;simp)
      have ft:=c52 ⟨1,E1,E2,n,[]⟩ (by simp only;simp)
      generalize pkOk ⟨1,E1,E2,n,[]⟩=b3 at *
      generalize pktText ⟨1,E1,E2,n,[]⟩=pt at *
      simp only[go_sem]
      cases b1
      ·rw[if_neg (by simp)]
       with_reducible repeat' (first|refine br ?_ ?_<;>intro h e<;>(try simp only[e,go_sem,iadG_e,zC,zN])<;>clear e|rw[i64w (by omega)]|refine sd ?_<;>try simp only[go_sem,iadG_e,zC,zN]|(first|refine cr (fc ..) ?_|refine cr (ft ..) ?_)<;>try simp only[go_sem,iadG_e,zC,zN]|fail)
       all_goals first|done|simp[Pk.zero,E.zero]
      cases b2
      ·rw[if_neg (by simp)]
       with_reducible repeat' (first|refine br ?_ ?_<;>intro h e<;>(try simp only[e,go_sem,iadG_e,zC,zN])<;>clear e|rw[i64w (by omega)]|refine sd ?_<;>try simp only[go_sem,iadG_e,zC,zN]|(first|refine cr (fc ..) ?_|refine cr (ft ..) ?_)<;>try simp only[go_sem,iadG_e,zC,zN]|fail)
       all_goals first|done|simp[Pk.zero,E.zero]
      cases b3
      ·rw[if_neg (by simp)]
       with_reducible repeat' (first|refine br ?_ ?_<;>intro h e<;>(try simp only[e,go_sem,iadG_e,zC,zN])<;>clear e|rw[i64w (by omega)]|refine sd ?_<;>try simp only[go_sem,iadG_e,zC,zN]|(first|refine cr (fc ..) ?_|refine cr (ft ..) ?_)<;>try simp only[go_sem,iadG_e,zC,zN]|fail)
       all_goals first|done|simp[Pk.zero,E.zero]
      by_cases hpt:pt=t
      ·rw[if_pos (by simp[hpt])]
       with_reducible repeat' (first|refine br ?_ ?_<;>intro h e<;>(try simp only[e,go_sem,iadG_e,zC,zN,eq_true hpt])<;>clear e|rw[i64w (by omega)]|refine sd ?_<;>try simp only[go_sem,iadG_e,zC,zN,eq_true hpt]|(first|refine cr (fc ..) ?_|refine cr (ft ..) ?_)<;>try simp only[go_sem,iadG_e,zC,zN,eq_true hpt]|fail)
       all_goals first|done|simp[Pk.row]
      ·rw[if_neg (by simp[hpt])]
       with_reducible repeat' (first|refine br ?_ ?_<;>intro h e<;>(try simp only[e,go_sem,iadG_e,zC,zN,eq_false hpt])<;>clear e|rw[i64w (by omega)]|refine sd ?_<;>try simp only[go_sem,iadG_e,zC,zN,eq_false hpt]|(first|refine cr (fc ..) ?_|refine cr (ft ..) ?_)<;>try simp only[go_sem,iadG_e,zC,zN,eq_false hpt]|fail)
       all_goals first|done|simp[Pk.zero,E.zero]
     ·have hr:=hI n false (fun k k0 k9 hk=>absurd hk (hn k k0 (by omega)))
      rw[h4 n false h70'] at hr
      rw[←hr]
      clear hr hI h4 h5 hn
      have fc:=c83 ⟨1,E1,E2,n,[]⟩ (by simp only;simp)
      have ft:=c52 ⟨1,E1,E2,n,[]⟩ (by simp only;simp)
      generalize pkOk ⟨1,E1,E2,n,[]⟩=b3 at *
      generalize pktText ⟨1,E1,E2,n,[]⟩=pt at *
      simp only[go_sem]
      cases b1
      ·rw[if_neg (by simp)]
       with_reducible repeat' (first|refine br ?_ ?_<;>intro h e<;>(try simp only[e,go_sem,iadG_e,zC,zN])<;>clear e|rw[i64w (by omega)]|refine sd ?_<;>try simp only[go_sem,iadG_e,zC,zN]|(first|refine cr (fc ..) ?_|refine cr (ft ..) ?_)<;>try simp only[go_sem,iadG_e,zC,zN]|fail)
       all_goals first|done|simp[Pk.zero,E.zero]
      cases b2
      ·rw[if_neg (by simp)]
       with_reducible repeat' (first|refine br ?_ ?_<;>intro h e<;>(try simp only[e,go_sem,iadG_e,zC,zN])<;>clear e|rw[i64w (by omega)]|refine sd ?_<;>try simp only[go_sem,iadG_e,zC,zN]|(first|refine cr (fc ..) ?_|refine cr (ft ..) ?_)<;>try simp only[go_sem,iadG_e,zC,zN]|fail)
       all_goals first|done|simp[Pk.zero,E.zero]
      rw[if_neg (by simp)]
      with_reducible repeat' (first|refine br ?_ ?_<;>intro h e<;>(try simp only[e,go_sem,iadG_e,zC,zN])<;>clear e|rw[i64w (by omega)]|refine sd ?_<;>try simp only[go_sem,iadG_e,zC,zN]|(first|refine cr (fc ..) ?_|refine cr (ft ..) ?_)<;>try simp only[go_sem,iadG_e,zC,zN]|fail)
      all_goals first|done|simp[Pk.zero,E.zero]
    ·simp only[if_neg hd] at h4
     with_reducible repeat' (first|refine br ?_ ?_<;>intro h e<;>(try simp only[e,go_sem,eq_false h70,eq_false hd,iadG_e,zC,zN,List.map_cons,List.map_nil])<;>clear e|rw[i64w (by omega)]|refine sd ?_<;>try simp only[go_sem,eq_false h70,eq_false hd,iadG_e,zC,zN,List.map_cons,List.map_nil]|(first|refine cr (fs ..) ?_|refine cr (fw ..) ?_|refine cr (e1 ..) ?_|refine cr (e2 ..) ?_)<;>try simp only[go_sem,eq_false h70,eq_false hd,iadG_e,zC,zN,List.map_cons,List.map_nil]|fail)
     refine callO (c87 w3 (by omega)) [] 48 0 (by simp only[go_sem];first|done|simp) (by simp) (by rintro _ _ ⟨rfl,_⟩;simp) (by intro i hi;omega) ?_
     rintro _ _ ⟨rfl,(⟨n,rfl,hn⟩|⟨n,rfl,hn⟩)⟩
     ·have hr:=hI n true (fun k k0 k9 hk=>⟨hn k k0 (by omega) hk,rfl⟩)
      rw[h4 n true h70'] at hr
      rw[←hr]
      clear hr hI h4 h5 hn
      have fc:=c83 ⟨2,E1,E2,n,[]⟩ (by simp only;simp)
      have ft:=c52 ⟨2,E1,E2,n,[]⟩ (by simp only;simp)
      generalize pkOk ⟨2,E1,E2,n,[]⟩=b3 at *
      generalize pktText ⟨2,E1,E2,n,[]⟩=pt at *
      simp only[go_sem]
      cases b1
      ·rw[if_neg (by simp)]
       with_reducible repeat' (first|refine br ?_ ?_<;>intro h e<;>(try simp only[e,go_sem,iadG_e,zC,zN])<;>clear e|rw[i64w (by omega)]|refine sd ?_<;>try simp only[go_sem,iadG_e,zC,zN]|(first|refine cr (fc ..) ?_|refine cr (ft ..) ?_)<;>try simp only[go_sem,iadG_e,zC,zN]|fail)
       all_goals first|done|simp[Pk.zero,E.zero]
      cases b2
      ·rw[if_neg (by simp)]
       with_reducible repeat' (first|refine br ?_ ?_<;>intro h e<;>(try simp only[e,go_sem,iadG_e,zC,zN])<;>clear e|rw[i64w (by omega)]|refine sd ?_<;>try simp only[go_sem,iadG_e,zC,zN]|(first|refine cr (fc ..) ?_|refine cr (ft ..) ?_)<;>try simp only[go_sem,iadG_e,zC,zN]|fail)
       all_goals first|done|simp[Pk.zero,E.zero]
      cases b3
      ·rw[if_neg (by simp)]
       with_reducible repeat' (first|refine br ?_ ?_<;>intro h e<;>(try simp only[e,go_sem,iadG_e,zC,zN])<;>clear e|rw[i64w (by omega)]|refine sd ?_<;>try simp only[go_sem,iadG_e,zC,zN]|(first|refine cr (fc ..) ?_|refine cr (ft ..) ?_)<;>try simp only[go_sem,iadG_e,zC,zN]|fail)
       all_goals first|done|simp[Pk.zero,E.zero]
      by_cases hpt:pt=t
      ·rw[if_pos (by simp[hpt])]
       with_reducible repeat' (first|refine br ?_ ?_<;>intro h e<;>(try simp only[e,go_sem,iadG_e,zC,zN,eq_true hpt])<;>clear e|rw[i64w (by omega)]|refine sd ?_<;>try simp only[go_sem,iadG_e,zC,zN,eq_true hpt]|(first|refine cr (fc ..) ?_|refine cr (ft ..) ?_)<;>try simp only[go_sem,iadG_e,zC,zN,eq_true hpt]|fail)
       all_goals first|done|simp[Pk.row]
      ·rw[if_neg (by simp[hpt])]
       with_reducible repeat' (first|refine br ?_ ?_<;>intro h e<;>(try simp only[e,go_sem,iadG_e,zC,zN,eq_false hpt])<;>clear e|rw[i64w (by omega)]|refine sd ?_<;>try simp only[go_sem,iadG_e,zC,zN,eq_false hpt]|(first|refine cr (fc ..) ?_|refine cr (ft ..) ?_)<;>try simp only[go_sem,iadG_e,zC,zN,eq_false hpt]|fail)
       all_goals first|done|simp[Pk.zero,E.zero]
     ·have hr:=hI n false (fun k k0 k9 hk=>absurd hk (hn k k0 (by omega)))
      rw[h4 n false h70'] at hr
      rw[←hr]
      clear hr hI h4 h5 hn
      have fc:=c83 ⟨2,E1,E2,n,[]⟩ (by simp only;simp)
      have ft:=c52 ⟨2,E1,E2,n,[]⟩ (by simp only;simp)
      generalize pkOk ⟨2,E1,E2,n,[]⟩=b3 at *
      generalize pktText ⟨2,E1,E2,n,[]⟩=pt at *
      simp only[go_sem]
      cases b1
      ·rw[if_neg (by simp)]
       with_reducible repeat' (first|refine br ?_ ?_<;>intro h e<;>(try simp only[e,go_sem,iadG_e,zC,zN])<;>clear e|rw[i64w (by omega)]|refine sd ?_<;>try simp only[go_sem,iadG_e,zC,zN]|(first|refine cr (fc ..) ?_|refine cr (ft ..) ?_)<;>try simp only[go_sem,iadG_e,zC,zN]|fail)
       all_goals first|done|simp[Pk.zero,E.zero]
      cases b2
      ·rw[if_neg (by simp)]
       with_reducible repeat' (first|refine br ?_ ?_<;>intro h e<;>(try simp only[e,go_sem,iadG_e,zC,zN])<;>clear e|rw[i64w (by omega)]|refine sd ?_<;>try simp only[go_sem,iadG_e,zC,zN]|(first|refine cr (fc ..) ?_|refine cr (ft ..) ?_)<;>try simp only[go_sem,iadG_e,zC,zN]|fail)
       all_goals first|done|simp[Pk.zero,E.zero]
      rw[if_neg (by simp)]
      with_reducible repeat' (first|refine br ?_ ?_<;>intro h e<;>(try simp only[e,go_sem,iadG_e,zC,zN])<;>clear e|rw[i64w (by omega)]|refine sd ?_<;>try simp only[go_sem,iadG_e,zC,zN]|(first|refine cr (fc ..) ?_|refine cr (ft ..) ?_)<;>try simp only[go_sem,iadG_e,zC,zN]|fail)
      all_goals first|done|simp[Pk.zero,E.zero]
   ·obtain⟨w0,w1,w2,w3,w4,rfl⟩:=words_2 h
    have m1:=hmem w1 (by simp)
    have m2:=hmem w2 (by simp)
    have m3:=hmem w3 (by simp)
    have m4:=hmem w4 (by simp)
    have e1:=c86 w1 (by omega)
    have e2:=c86 w2 (by omega)
    replace h5:=h5 w0 w1 w2 w3 w4 rfl
    unfold rdV at e1 e2
    have fw:FnR Tryz.prog G 76 [.int .i64 5,.int .i64 4,.int .i64 5] (.bool true):=c76 5 4 5
    generalize hb1:(endRead w1).isSome=b1 at *
    generalize hE1:(endRead w1).getD .zero=E1 at *
    generalize hb2:(endRead w2).isSome=b2 at *
    generalize hE2:(endRead w2).getD .zero=E2 at *
    by_cases hd:w0=[100,97,116,97]
    ·simp only[if_pos hd] at h5
     with_reducible repeat' (first|refine br ?_ ?_<;>intro h e<;>(try simp only[e,go_sem,eq_false h70,eq_true hd,iadG_e,zC,zN,List.map_cons,List.map_nil])<;>clear e|rw[i64w (by omega)]|refine sd ?_<;>try simp only[go_sem,eq_false h70,eq_true hd,iadG_e,zC,zN,List.map_cons,List.map_nil]|(first|refine cr (fs ..) ?_|refine cr (fw ..) ?_|refine cr (e1 ..) ?_|refine cr (e2 ..) ?_)<;>try simp only[go_sem,eq_false h70,eq_true hd,iadG_e,zC,zN,List.map_cons,List.map_nil]|fail)
     refine callO (c87 w3 (by omega)) [] 48 0 (by simp only[go_sem];first|done|simp) (by simp) (by rintro _ _ ⟨rfl,_⟩;simp) (by intro i hi;omega) ?_
     rintro _ _ ⟨rfl,(⟨n,rfl,hn⟩|⟨n,rfl,hn⟩)⟩
     ·have hr:=hI n true (fun k k0 k9 hk=>⟨hn k k0 (by omega) hk,rfl⟩)
      rw[h5 n true h70'] at hr
      rw[←hr]
      clear hr hI h4 h5 hn
      have fc:=c83 ⟨1,E1,E2,n,w4⟩ (by simp only;omega)
      have ft:=c52 ⟨1,E1,E2,n,w4⟩ (by simp only;omega)
      generalize pkOk ⟨1,E1,E2,n,w4⟩=b3 at *
      generalize pktText ⟨1,E1,E2,n,w4⟩=pt at *
      simp only[go_sem]
      cases b1
      ·rw[if_neg (by simp)]
       with_reducible repeat' (first|refine br ?_ ?_<;>intro h e<;>(try simp only[e,go_sem,iadG_e,zC,zN])<;>clear e|rw[i64w (by omega)]|refine sd ?_<;>try simp only[go_sem,iadG_e,zC,zN]|(first|refine cr (c88 ..) ?_|refine cr (fc ..) ?_|refine cr (ft ..) ?_)<;>try simp only[go_sem,iadG_e,zC,zN]|fail)
       all_goals first|done|simp[Pk.zero,E.zero]
      cases b2
      ·rw[if_neg (by simp)]
       with_reducible repeat' (first|refine br ?_ ?_<;>intro h e<;>(try simp only[e,go_sem,iadG_e,zC,zN])<;>clear e|rw[i64w (by omega)]|refine sd ?_<;>try simp only[go_sem,iadG_e,zC,zN]|(first|refine cr (c88 ..) ?_|refine cr (fc ..) ?_|refine cr (ft ..) ?_)<;>try simp only[go_sem,iadG_e,zC,zN]|fail)
       all_goals first|done|simp[Pk.zero,E.zero]
      cases b3
      ·rw[if_neg (by simp)]
       with_reducible repeat' (first|refine br ?_ ?_<;>intro h e<;>(try simp only[e,go_sem,iadG_e,zC,zN])<;>clear e|rw[i64w (by omega)]|refine sd ?_<;>try simp only[go_sem,iadG_e,zC,zN]|(first|refine cr (c88 ..) ?_|refine cr (fc ..) ?_|refine cr (ft ..) ?_)<;>try simp only[go_sem,iadG_e,zC,zN]|fail)
       all_goals first|done|simp[Pk.zero,E.zero]
      by_cases hpt:pt=t
      ·rw[if_pos (by simp[hpt])]
       with_reducible repeat' (first|refine br ?_ ?_<;>intro h e<;>(try simp only[e,go_sem,iadG_e,zC,zN,eq_true hpt])<;>clear e|rw[i64w (by omega)]|refine sd ?_<;>try simp only[go_sem,iadG_e,zC,zN,eq_true hpt]|(first|refine cr (c88 ..) ?_|refine cr (fc ..) ?_|refine cr (ft ..) ?_)<;>try simp only[go_sem,iadG_e,zC,zN,eq_true hpt]|fail)
       all_goals first|done|simp[Pk.row]
      ·rw[if_neg (by simp[hpt])]
       with_reducible repeat' (first|refine br ?_ ?_<;>intro h e<;>(try simp only[e,go_sem,iadG_e,zC,zN,eq_false hpt])<;>clear e|rw[i64w (by omega)]|refine sd ?_<;>try simp only[go_sem,iadG_e,zC,zN,eq_false hpt]|(first|refine cr (c88 ..) ?_|refine cr (fc ..) ?_|refine cr (ft ..) ?_)<;>try simp only[go_sem,iadG_e,zC,zN,eq_false hpt]|fail)
       all_goals first|done|simp[Pk.zero,E.zero]
     ·have hr:=hI n false (fun k k0 k9 hk=>absurd hk (hn k k0 (by omega)))
      rw[h5 n false h70'] at hr
      rw[←hr]
      clear hr hI h4 h5 hn
      have fc:=c83 ⟨1,E1,E2,n,w4⟩ (by simp only;omega)
      have ft:=c52 ⟨1,E1,E2,n,w4⟩ (by simp only;omega)
      generalize pkOk ⟨1,E1,E2,n,w4⟩=b3 at *
      generalize pktText ⟨1,E1,E2,n,w4⟩=pt at *
      simp only[go_sem]
      cases b1
      ·rw[if_neg (by simp)]
       with_reducible repeat' (first|refine br ?_ ?_<;>intro h e<;>(try simp only[e,go_sem,iadG_e,zC,zN])<;>clear e|rw[i64w (by omega)]|refine sd ?_<;>try simp only[go_sem,iadG_e,zC,zN]|(first|refine cr (c88 ..) ?_|refine cr (fc ..) ?_|refine cr (ft ..) ?_)<;>try simp only[go_sem,iadG_e,zC,zN]|fail)
       all_goals first|done|simp[Pk.zero,E.zero]
      cases b2
      ·rw[if_neg (by simp)]
       with_reducible repeat' (first|refine br ?_ ?_<;>intro h e<;>(try simp only[e,go_sem,iadG_e,zC,zN])<;>clear e|rw[i64w (by omega)]|refine sd ?_<;>try simp only[go_sem,iadG_e,zC,zN]|(first|refine cr (c88 ..) ?_|refine cr (fc ..) ?_|refine cr (ft ..) ?_)<;>try simp only[go_sem,iadG_e,zC,zN]|fail)
       all_goals first|done|simp[Pk.zero,E.zero]
      rw[if_neg (by simp)]
      with_reducible repeat' (first|refine br ?_ ?_<;>intro h e<;>(try simp only[e,go_sem,iadG_e,zC,zN])<;>clear e|rw[i64w (by omega)]|refine sd ?_<;>try simp only[go_sem,iadG_e,zC,zN]|(first|refine cr (c88 ..) ?_|refine cr (fc ..) ?_|refine cr (ft ..) ?_)<;>try simp only[go_sem,iadG_e,zC,zN]|fail)
      all_goals first|done|simp[Pk.zero,E.zero]
    ·simp only[if_neg hd] at h5
     with_reducible repeat' (first|refine br ?_ ?_<;>intro h e<;>(try simp only[e,go_sem,eq_false h70,eq_false hd,iadG_e,zC,zN,List.map_cons,List.map_nil])<;>clear e|rw[i64w (by omega)]|refine sd ?_<;>try simp only[go_sem,eq_false h70,eq_false hd,iadG_e,zC,zN,List.map_cons,List.map_nil]|(first|refine cr (fs ..) ?_|refine cr (fw ..) ?_|refine cr (e1 ..) ?_|refine cr (e2 ..) ?_)<;>try simp only[go_sem,eq_false h70,eq_false hd,iadG_e,zC,zN,List.map_cons,List.map_nil]|fail)
     refine callO (c87 w3 (by omega)) [] 48 0 (by simp only[go_sem];first|done|simp) (by simp) (by rintro _ _ ⟨rfl,_⟩;simp) (by intro i hi;omega) ?_
     rintro _ _ ⟨rfl,(⟨n,rfl,hn⟩|⟨n,rfl,hn⟩)⟩
     ·have hr:=hI n true (fun k k0 k9 hk=>⟨hn k k0 (by omega) hk,rfl⟩)
      rw[h5 n true h70'] at hr
      rw[←hr]
      clear hr hI h4 h5 hn
      have fc:=c83 ⟨2,E1,E2,n,w4⟩ (by simp only;omega)
      have ft:=c52 ⟨2,E1,E2,n,w4⟩ (by simp only;omega)
      generalize pkOk ⟨2,E1,E2,n,w4⟩=b3 at *
      generalize pktText ⟨2,E1,E2,n,w4⟩=pt at *
      simp only[go_sem]
      cases b1
      ·rw[if_neg (by simp)]
       with_reducible repeat' (first|refine br ?_ ?_<;>intro h e<;>(try simp only[e,go_sem,iadG_e,zC,zN])<;>clear e|rw[i64w (by omega)]|refine sd ?_<;>try simp only[go_sem,iadG_e,zC,zN]|(first|refine cr (c88 ..) ?_|refine cr (fc ..) ?_|refine cr (ft ..) ?_)<;>try simp only[go_sem,iadG_e,zC,zN]|fail)
       all_goals first|done|simp[Pk.zero,E.zero]
      cases b2
      ·rw[if_neg (by simp)]
       with_reducible repeat' (first|refine br ?_ ?_<;>intro h e<;>(try simp only[e,go_sem,iadG_e,zC,zN])<;>clear e|rw[i64w (by omega)]|refine sd ?_<;>try simp only[go_sem,iadG_e,zC,zN]|(first|refine cr (c88 ..) ?_|refine cr (fc ..) ?_|refine cr (ft ..) ?_)<;>try simp only[go_sem,iadG_e,zC,zN]|fail)
       all_goals first|done|simp[Pk.zero,E.zero]
      cases b3
      ·rw[if_neg (by simp)]
       with_reducible repeat' (first|refine br ?_ ?_<;>intro h e<;>(try simp only[e,go_sem,iadG_e,zC,zN])<;>clear e|rw[i64w (by omega)]|refine sd ?_<;>try simp only[go_sem,iadG_e,zC,zN]|(first|refine cr (c88 ..) ?_|refine cr (fc ..) ?_|refine cr (ft ..) ?_)<;>try simp only[go_sem,iadG_e,zC,zN]|fail)
       all_goals first|done|simp[Pk.zero,E.zero]
      by_cases hpt:pt=t
      ·rw[if_pos (by simp[hpt])]
       with_reducible repeat' (first|refine br ?_ ?_<;>intro h e<;>(try simp only[e,go_sem,iadG_e,zC,zN,eq_true hpt])<;>clear e|rw[i64w (by omega)]|refine sd ?_<;>try simp only[go_sem,iadG_e,zC,zN,eq_true hpt]|(first|refine cr (c88 ..) ?_|refine cr (fc ..) ?_|refine cr (ft ..) ?_)<;>try simp only[go_sem,iadG_e,zC,zN,eq_true hpt]|fail)
       all_goals first|done|simp[Pk.row]
      ·rw[if_neg (by simp[hpt])]
       with_reducible repeat' (first|refine br ?_ ?_<;>intro h e<;>(try simp only[e,go_sem,iadG_e,zC,zN,eq_false hpt])<;>clear e|rw[i64w (by omega)]|refine sd ?_<;>try simp only[go_sem,iadG_e,zC,zN,eq_false hpt]|(first|refine cr (c88 ..) ?_|refine cr (fc ..) ?_|refine cr (ft ..) ?_)<;>try simp only[go_sem,iadG_e,zC,zN,eq_false hpt]|fail)
       all_goals first|done|simp[Pk.zero,E.zero]
     ·have hr:=hI n false (fun k k0 k9 hk=>absurd hk (hn k k0 (by omega)))
      rw[h5 n false h70'] at hr
      rw[←hr]
      clear hr hI h4 h5 hn
      have fc:=c83 ⟨2,E1,E2,n,w4⟩ (by simp only;omega)
      have ft:=c52 ⟨2,E1,E2,n,w4⟩ (by simp only;omega)
      generalize pkOk ⟨2,E1,E2,n,w4⟩=b3 at *
      generalize pktText ⟨2,E1,E2,n,w4⟩=pt at *
      simp only[go_sem]
      cases b1
      ·rw[if_neg (by simp)]
       with_reducible repeat' (first|refine br ?_ ?_<;>intro h e<;>(try simp only[e,go_sem,iadG_e,zC,zN])<;>clear e|rw[i64w (by omega)]|refine sd ?_<;>try simp only[go_sem,iadG_e,zC,zN]|(first|refine cr (c88 ..) ?_|refine cr (fc ..) ?_|refine cr (ft ..) ?_)<;>try simp only[go_sem,iadG_e,zC,zN]|fail)
       all_goals first|done|simp[Pk.zero,E.zero]
      cases b2
      ·rw[if_neg (by simp)]
       with_reducible repeat' (first|refine br ?_ ?_<;>intro h e<;>(try simp only[e,go_sem,iadG_e,zC,zN])<;>clear e|rw[i64w (by omega)]|refine sd ?_<;>try simp only[go_sem,iadG_e,zC,zN]|(first|refine cr (c88 ..) ?_|refine cr (fc ..) ?_|refine cr (ft ..) ?_)<;>try simp only[go_sem,iadG_e,zC,zN]|fail)
       all_goals first|done|simp[Pk.zero,E.zero]
      rw[if_neg (by simp)]
      with_reducible repeat' (first|refine br ?_ ?_<;>intro h e<;>(try simp only[e,go_sem,iadG_e,zC,zN])<;>clear e|rw[i64w (by omega)]|refine sd ?_<;>try simp only[go_sem,iadG_e,zC,zN]|(first|refine cr (c88 ..) ?_|refine cr (fc ..) ?_|refine cr (ft ..) ?_)<;>try simp only[go_sem,iadG_e,zC,zN]|fail)
      all_goals first|done|simp[Pk.zero,E.zero]
theorem cut_ne {t:B} (h:4≤(cutAll 32 t).length):t≠[]:=fun h0=>by
 subst h0
 simp[cutAll] at h
def ic57:IC:=sR [oP 2 (.alloc 70 [i0,i0,i0,i0,i0,i0,s0]),oP 3 (.mv (.c (.bool false)))] (.seq (sR [mV 6 0,oP 7 (.lens (.t 6)),oP 8 (.bin .gtr (.t 7) (.c (.int .i64 70)))] (.cond (.t 8) (sR [oP 9 (.build [i0,i0,i0,i0,i0,i0,s0] []),nP (.sto 7 (.t 2) (.t 9)),oP 3 (.mv (.c (.bool false)))] .ret) .skip)) (sR [mV 10 0,oP 11 (.call 30 [.t 10,.c (.int .u8 32)]),mV 4 11] (.seq (sR [mV 12 4,oP 13 (.len (.t 12)),oP 14 (.call 100 [.t 13,.c (.int .i64 4),.c (.int .i64 5)]),oP 15 (.un .not (.t 14))] (.cond (.t 15) (sR [oP 16 (.build [i0,i0,i0,i0,i0,i0,s0] []),nP (.sto 7 (.t 2) (.t 16)),oP 3 (.mv (.c (.bool false)))] .ret) .skip)) (sR [mV 17 4,oP 18 (.iad 1 (.t 17) (.c (.int .i64 3))),lD 19 1 18,oP 20 (.call 99 [.t 19]),oP 21 (.build [i0,i0,i0,i0,i0,i0,s0] [(0,(1,.c (.int .i64 2))),(5,(1,.t 20))]),oP 5 (.alloc 70 [i0,i0,i0,i0,i0,i0,s0]),nP (.sto 7 (.t 5) (.t 21))] (sR [mV 23 4,oP 24 (.iad 1 (.t 23) (.c (.int .i64 1))),lD 25 1 24,oP 26 (.call 101 [.t 25]),mV 22 26,eX 27 22 0,eX 28 22 1,fD 29 1 5,nP (.sto 2 (.t 29) (.t 27))] (sR [mV 31 4,oP 32 (.iad 1 (.t 31) (.c (.int .i64 2))),lD 33 1 32,oP 34 (.call 101 [.t 33]),mV 30 34,eX 35 30 0,eX 36 30 1,fD 37 3 5,nP (.sto 2 (.t 37) (.t 35))] (.seq (sR [mV 38 4,oP 39 (.len (.t 38)),oP 40 (.bin .eql (.t 39) (.c (.int .i64 5)))] (.cond (.t 40) (sR [fD 41 0 5,nP (.sto 1 (.t 41) (.c (.int .i64 1)))] (.reg [mV 42 4,oP 43 (.iad 1 (.t 42) (.c (.int .i64 4))),lD 44 1 43,fD 45 6 5,nP (.sto 1 (.t 45) (.t 44))])) .skip)) (.seq (sR [lA 46 7 5,oP 47 (.call 35 [.t 46]),mV 48 0,bN 49 .neq 47 48,mV 50 49,⟨some 51,some (50,false),.mv (.t 0)⟩,⟨some 52,some (50,false),.bin .eql (.t 51) (.c s0)⟩,oP 53 (.pick (.t 50) (.c (.bool true)) (.t 52))] (.cond (.t 53) (sR [oP 54 (.build [i0,i0,i0,i0,i0,i0,s0] []),nP (.sto 7 (.t 2) (.t 54)),oP 3 (.mv (.c (.bool false)))] .ret) .skip)) (sR [lA 55 7 5,nP (.sto 7 (.t 2) (.t 55)),oP 3 (.mv (.c (.bool true)))] .ret)))))))))
theorem dg57:Dg Tryz.prog 57 Tryz.f57 ic57 [(.cell 2 7 true),(.t 3)]:=⟨Tryz.func57,by kernel_rfl,by kernel_rfl⟩
set_option maxHeartbeats 4000000 in
theorem c57 (t:B) (hl:t.length≤100000):FnR Tryz.prog G 57 [.str t] (.tup [.agg (Pk.row ((pktRead t).getD .zero)),.bool (pktRead t).isSome]):=by
 refine mF dg57 Tryz.ntmps57 ?_
 have fs:=c30 t 32 hl
 have hln:=cutAll_len 32 t
 have hmem:=cutAll_mem 32 t
 have hbad:=read_bad (t:=t)
 have hne:=cut_ne (t:=t)
 have hdef:¬70<t.length→pktRead t=match cutAll 32 t with
  | [_,f,o,n]=>if pktText ⟨2,(endRead f).getD .zero,(endRead o).getD .zero,decW n,[]⟩=t then some ⟨2,(endRead f).getD .zero,(endRead o).getD .zero,decW n,[]⟩ else none
  | [_,f,o,n,x]=>if pktText ⟨1,(endRead f).getD .zero,(endRead o).getD .zero,decW n,x⟩=t then some ⟨1,(endRead f).getD .zero,(endRead o).getD .zero,decW n,x⟩ else none
  | _=>none:=fun h=>by unfold pktRead;rw[if_neg h];rfl
 generalize hws:cutAll 32 t=ws at *
 have fw:=c100 ws.length 4 5
 simp only[show((UInt8.toNat 32:Nat):Int)=32 from rfl] at fs
 simp only[ic57,go_sem]
 by_cases h70:(70:Int)<t.length
 ·rw[hbad (.inl (by omega))]
  simp only[eq_true h70,go_sem]
  with_reducible repeat' (first|refine br ?_ ?_<;>intro h e<;>(try simp only[e,go_sem,eq_true h70])<;>clear e|rw[i64w (by omega)]|refine sd ?_<;>try simp only[go_sem,eq_true h70]|fail)
  all_goals first|done|simp[Pk.zero,E.zero]
 have h70':¬70<t.length:=by omega
 replace hdef:=hdef h70'
 simp only[eq_false h70,go_sem]
 cases hw:within (ws.length:Int) 4 5 with
 | false =>
   rw[hw] at fw
   rw[hbad (.inr hw)]
   with_reducible repeat' (first|refine br ?_ ?_<;>intro h e<;>(try simp only[e,go_sem])<;>clear e|rw[i64w (by omega)]|refine sd ?_<;>try simp only[go_sem]|(first|refine cr (fs ..) ?_|refine cr (fw ..) ?_)<;>try simp only[go_sem]|fail)
   all_goals first|done|simp[Pk.zero,E.zero]
 | true =>
   rw[hw] at fw
   have hw:=M.within_iff.1 hw
   replace hne:=hne (by omega)
   have hne':(t=[])=False:=eq_false hne
   clear hbad
   rcases(show ws.length=4∨ws.length=5 by omega) with h|h
   ·obtain⟨w0,w1,w2,w3,rfl⟩:=words_1 h
    have m1:=hmem w1 (by simp)
    have m2:=hmem w2 (by simp)
    have m3:=hmem w3 (by simp)
    have e1:=c101 w1 (by omega)
    have e2:=c101 w2 (by omega)
    have e3:=c99 w3 (by omega)
    simp only at hdef
    rw[hdef]
    unfold rdV at e1 e2
    have fw:FnR Tryz.prog G 100 [.int .i64 4,.int .i64 4,.int .i64 5] (.bool true):=c100 4 4 5
    generalize hE1:(endRead w1).getD .zero=E1 at *
    generalize hE2:(endRead w2).getD .zero=E2 at *
    generalize decW w3=n at *
    have ft:=c35 ⟨2,E1,E2,n,[]⟩ (by simp only;simp)
    generalize pktText ⟨2,E1,E2,n,[]⟩=pt at *
    by_cases hpt:pt=t
    ·rw[if_pos hpt]
     with_reducible repeat' (first|refine br ?_ ?_<;>intro h e<;>(try simp only[e,go_sem,List.map_cons,List.map_nil,iadG_e,zC,zN,eq_true hpt,hne'])<;>clear e|rw[i64w (by omega)]|refine sd ?_<;>try simp only[go_sem,List.map_cons,List.map_nil,iadG_e,zC,zN,eq_true hpt,hne']|(first|refine cr (fs ..) ?_|refine cr (fw ..) ?_|refine cr (e1 ..) ?_|refine cr (e2 ..) ?_|refine cr (e3 ..) ?_|refine cr (ft ..) ?_)<;>try simp only[go_sem,List.map_cons,List.map_nil,iadG_e,zC,zN,eq_true hpt,hne']|fail)
     all_goals first|done|simp[Pk.row]
    ·rw[if_neg hpt]
     with_reducible repeat' (first|refine br ?_ ?_<;>intro h e<;>(try simp only[e,go_sem,List.map_cons,List.map_nil,iadG_e,zC,zN,eq_false hpt,hne'])<;>clear e|rw[i64w (by omega)]|refine sd ?_<;>try simp only[go_sem,List.map_cons,List.map_nil,iadG_e,zC,zN,eq_false hpt,hne']|(first|refine cr (fs ..) ?_|refine cr (fw ..) ?_|refine cr (e1 ..) ?_|refine cr (e2 ..) ?_|refine cr (e3 ..) ?_|refine cr (ft ..) ?_)<;>try simp only[go_sem,List.map_cons,List.map_nil,iadG_e,zC,zN,eq_false hpt,hne']|fail)
     all_goals first|done|simp[Pk.zero,E.zero]
   ·obtain⟨w0,w1,w2,w3,w4,rfl⟩:=words_2 h
    have m1:=hmem w1 (by simp)
    have m2:=hmem w2 (by simp)
    have m3:=hmem w3 (by simp)
    have m4:=hmem w4 (by simp)
    have e1:=c101 w1 (by omega)
    have e2:=c101 w2 (by omega)
    have e3:=c99 w3 (by omega)
    simp only at hdef
    rw[hdef]
    unfold rdV at e1 e2
    have fw:FnR Tryz.prog G 100 [.int .i64 5,.int .i64 4,.int .i64 5] (.bool true):=c100 5 4 5
    generalize hE1:(endRead w1).getD .zero=E1 at *
    generalize hE2:(endRead w2).getD .zero=E2 at *
    generalize decW w3=n at *
    have ft:=c35 ⟨1,E1,E2,n,w4⟩ (by simp only;omega)
    generalize pktText ⟨1,E1,E2,n,w4⟩=pt at *
    by_cases hpt:pt=t
    ·rw[if_pos hpt]
     with_reducible repeat' (first|refine br ?_ ?_<;>intro h e<;>(try simp only[e,go_sem,List.map_cons,List.map_nil,iadG_e,zC,zN,eq_true hpt,hne'])<;>clear e|rw[i64w (by omega)]|refine sd ?_<;>try simp only[go_sem,List.map_cons,List.map_nil,iadG_e,zC,zN,eq_true hpt,hne']|(first|refine cr (fs ..) ?_|refine cr (fw ..) ?_|refine cr (e1 ..) ?_|refine cr (e2 ..) ?_|refine cr (e3 ..) ?_|refine cr (ft ..) ?_)<;>try simp only[go_sem,List.map_cons,List.map_nil,iadG_e,zC,zN,eq_true hpt,hne']|fail)
     all_goals first|done|simp[Pk.row]
    ·rw[if_neg hpt]
     with_reducible repeat' (first|refine br ?_ ?_<;>intro h e<;>(try simp only[e,go_sem,List.map_cons,List.map_nil,iadG_e,zC,zN,eq_false hpt,hne'])<;>clear e|rw[i64w (by omega)]|refine sd ?_<;>try simp only[go_sem,List.map_cons,List.map_nil,iadG_e,zC,zN,eq_false hpt,hne']|(first|refine cr (fs ..) ?_|refine cr (fw ..) ?_|refine cr (e1 ..) ?_|refine cr (e2 ..) ?_|refine cr (e3 ..) ?_|refine cr (ft ..) ?_)<;>try simp only[go_sem,List.map_cons,List.map_nil,iadG_e,zC,zN,eq_false hpt,hne']|fail)
     all_goals first|done|simp[Pk.zero,E.zero]
def ic140:IC:=sR [oP 1 (.box 38 (.t 0)),oP 2 (.mv (.c (.bool false)))] (.seq (sR [fD 7 0 1,lD 8 1 7,oP 9 (.call 170 [.t 8]),oP 10 (.un .not (.t 9)),mV 11 10,⟨some 12,some (11,false),.fad 1 (.t 1)⟩,⟨some 13,some (11,false),.ld 1 false (.t 12)⟩,⟨some 14,some (11,false),.len (.t 13)⟩,⟨some 15,some (11,false),.bin .gtr (.t 14) (.c (.int .i64 4))⟩,oP 16 (.pick (.t 11) (.c (.bool true)) (.t 15))] (.cond (.t 16) (sR [oP 2 (.mv (.c (.bool false)))] .ret) .skip)) (.seq (sR [oP 3 (.mv (.c i0))] (.block 0 (.loop (.seq (sR [mV 17 3,fD 18 1 1,lD 19 1 18,oP 20 (.len (.t 19)),bN 21 .lss 17 20] (.cond (.t 21) .skip (.exit 0))) (.seq (.block 1 (sR [fD 24 1 1,lD 25 1 24,mV 26 3,oP 27 (.iad 8 (.t 25) (.t 26)),lA 28 8 27,oP 4 (.alloc 181 [i0,i0,i0,i0,s0,.nils,s0,.nils]),nP (.sto 8 (.t 4) (.t 28))] (sR [oP 5 (.mv (.c (.bool false)))] (.seq (sR [oP 6 (.mv (.c i0))] (.block 2 (.loop (.seq (sR [mV 29 6,fD 30 0 1,lD 31 1 30,oP 32 (.len (.t 31)),bN 33 .lss 29 32] (.cond (.t 33) .skip (.exit 2))) (.seq (.block 3 (.drw [0,1,3,7,3,31,63,127,3,259,1023,2047,4095] [(0,mV 36 5),(1,mV 37 36),(2,⟨some 38,some (37,false),.fad 0 (.t 1)⟩),(3,⟨some 39,some (37,false),.ld 1 false (.t 38)⟩),(4,⟨some 40,some (37,false),.mv (.t 6)⟩),(5,⟨some 41,some (37,false),.iad 3 (.t 39) (.t 40)⟩),(6,⟨some 42,some (37,false),.fad 1 (.t 41)⟩),(7,⟨some 43,some (37,false),.ld 2 true (.t 42)⟩),(8,⟨some 44,some (37,false),.fad 0 (.t 4)⟩),(9,⟨some 45,some (37,false),.ld 2 true (.t 44)⟩),(10,⟨some 46,some (37,false),.eqs false [.i,.i] (.t 43) (.t 45)⟩),(11,oP 47 (.pick (.t 37) (.c (.bool true)) (.t 46))),(12,mV 5 47)])) (.reg [mV 34 6,oP 35 (.bin .add (.t 34) (.c (.int .i64 1))),mV 6 35])))))) (.seq (.drw [0,1,3,7,15,31,63,127,255,511,1023,2047,4095,8191,16383,32767,65535,131071,262143,524287,1048575,2097151,4194303,2097151,16777215,2097151,35651583,2097151,136314879,536870911,1073741823,2147483647] [(0,mV 48 5),(1,oP 49 (.un .not (.t 48))),(2,mV 50 49),(3,⟨some 51,some (50,false),.fad 2 (.t 4)⟩),(4,⟨some 52,some (50,false),.ld 2 true (.t 51)⟩),(5,⟨some 53,some (50,false),.call 95 [.t 52]⟩),(6,⟨some 54,some (50,false),.un .not (.t 53)⟩),(7,oP 55 (.pick (.t 50) (.c (.bool true)) (.t 54))),(8,mV 56 55),(9,⟨some 57,some (56,false),.fad 4 (.t 4)⟩),(10,⟨some 58,some (56,false),.ld 2 true (.t 57)⟩),(11,⟨some 59,some (56,false),.call 171 [.t 58]⟩),(12,⟨some 60,some (56,false),.un .not (.t 59)⟩),(13,oP 61 (.pick (.t 56) (.c (.bool true)) (.t 60))),(14,mV 62 61),(15,⟨some 63,some (62,false),.fad 6 (.t 4)⟩),(16,⟨some 64,some (62,false),.ld 2 true (.t 63)⟩),(17,⟨some 65,some (62,false),.call 171 [.t 64]⟩),(18,⟨some 66,some (62,false),.un .not (.t 65)⟩),(19,oP 67 (.pick (.t 62) (.c (.bool true)) (.t 66))),(20,mV 68 67),(21,⟨some 69,some (68,false),.fad 1 (.t 1)⟩),(22,⟨some 70,some (68,false),.ld 1 false (.t 69)⟩),(23,⟨some 71,some (68,false),.mv (.t 3)⟩),(24,⟨some 72,some (68,false),.slv 8 (.t 70) none (some (.t 71))⟩),(25,⟨some 73,some (68,false),.fad 0 (.t 4)⟩),(26,⟨some 74,some (68,false),.ld 2 true (.t 73)⟩),(27,⟨some 75,some (68,false),.fad 2 (.t 4)⟩),(28,⟨some 76,some (68,false),.ld 2 true (.t 75)⟩),(29,⟨some 77,some (68,false),.call 172 [.t 72,.t 74,.t 76]⟩),(30,⟨some 78,some (68,false),.bin .geq (.t 77) (.c i0)⟩),(31,oP 79 (.pick (.t 68) (.c (.bool true)) (.t 78)))]) (.cond (.t 79) (sR [oP 2 (.mv (.c (.bool false)))] .ret) .skip)))))) (.reg [mV 22 3,oP 23 (.bin .add (.t 22) (.c (.int .i64 1))),mV 3 23])))))) (sR [oP 2 (.mv (.c (.bool true)))] .ret)))
theorem dg140:Dg Tryz.prog 140 Tryz.f140 ic140 [(.t 2)]:=⟨Tryz.func140,by kernel_rfl,by kernel_rfl⟩
theorem c140 (d:Door) (h:DB d):FnR Tryz.prog G 140 [.agg [.sl 3 (d.map.map Pair.row),.sl 8 (d.flows.map Flw.row)]] (.bool (doorOk d)):=by
 refine mF dg140 Tryz.ntmps140 ?_
 obtain⟨h1,h2,h3⟩:=h
 simp only[ic140,go_sem]
 refine callR (c170 d.map h1) rfl rfl ?_
 cases hm:mapOk d.map<;>simp only[go_sem]
 ·simp[doorOk,hm]
 obtain⟨hp,hml⟩:=mapOk_ports hm
 with_reducible repeat' (first|refine br ?_ ?_<;>intro h e<;>(try simp only[e,go_sem])<;>clear e|rw[i64w (by omega)]|refine sd ?_<;>try simp only[go_sem]|fail)
 ·have:¬d.flows.length≤4:=by omega
  simp[doorOk,this]
 refine loopN (fun k:Nat=>⟨getL [(1,.pv 1001 0),(3,.int .i64 (k:Int))],getH [(1001,.var 38 [.sl 3 (d.map.map Pair.row),.sl 8 (d.flows.map Flw.row)])]⟩) (fun k=>d.flows.length - k)
  (fun k=>k≤d.flows.length∧∀j,j<k→okFlow d j=true) 0 (leQ []) ⟨Nat.zero_le _,by omega⟩ ?_
 intro k ⟨hk,ha⟩
 simp only[go_sem]
 by_cases h:(k:Int)<d.flows.length
 ·have hil:k<d.flows.length:=by omega
  have hg:d.flows.getD k default=d.flows[k]:=by simp[List.getD,hil]
  have hok:=okFlow_i hil
  obtain⟨hs1,hs2⟩:=h3 _ (List.getElem_mem hil)
  have hix:ixI (flowIx (d.flows.take k) d.flows[k].ins d.flows[k].out)<0↔(d.flows.take k).any (sameF d.flows[k].ins d.flows[k].out)=false:=by
   rw[ixI_lt,flowIx_none]
  have hix2:0≤ixI (flowIx (d.flows.take k) d.flows[k].ins d.flows[k].out)↔¬(d.flows.take k).any (sameF d.flows[k].ins d.flows[k].out)=false:=by
   rw[←hix];omega
  simp only[eq_true h,go_sem]
  with_reducible repeat' (first|refine br ?_ ?_<;>intro h e<;>(try simp only[e,go_sem,hg])<;>clear e|rw[i64w (by omega)]|refine sd ?_<;>try simp only[go_sem,hg]|fail)
  refine loopN (fun i:Nat=>⟨getL [(1,.pv 1001 0),(3,.int .i64 (k:Int)),(4,.pv 1004 0),(5,.bool ((d.map.take i).any fun p=>decide (p.ins=d.flows[k].ins))),(6,.int .i64 (i:Int))],getH [(1001,.var 38 [.sl 3 (d.map.map Pair.row),.sl 8 (d.flows.map Flw.row)]),(1004,.var 181 (Flw.row d.flows[k]))]⟩) (fun i=>d.map.length - i)
   (fun i=>i≤d.map.length) 0 (leQ []) (Nat.zero_le _) ?_
  intro i hi
  simp only[go_sem]
  by_cases h5:(i:Int)<d.map.length
  ·have hil5:i<d.map.length:=by omega
   have hg5:d.map.getD i default=d.map[i]:=by simp[List.getD,hil5]
   have hst:((d.map.take (i+1)).any fun q=>decide (q.ins=d.flows[k].ins))=(((d.map.take i).any fun q=>decide (q.ins=d.flows[k].ins))||decide (d.map[i].ins=d.flows[k].ins)):=by
    rw[List.take_add_one,zE hil5]
    simp only[Option.toList_some,List.any_append,List.any_cons,List.any_nil,Bool.or_false]
   simp only[eq_true h5,go_sem]
   cases hh:(d.map.take i).any fun p=>decide (p.ins=d.flows[k].ins)<;>simp only[go_sem]
   all_goals
    with_reducible repeat' (first|refine br ?_ ?_<;>intro h e<;>(try simp only[e,go_sem,hg5,E.ext_iff'])<;>clear e|rw[i64w (by omega)]|refine sd ?_<;>try simp only[go_sem,hg5,E.ext_iff']|fail)
    refine⟨i+1,by omega,by omega,leN [] ?_ (by simp only[go_sem];first|done|omega|rfl) (by simp[getN]) (by simp only[go_sem])⟩
    simp only[go_sem,hst,hh];first|done|simp
  ·simp only[eq_false h5,go_sem]
   have:i=d.map.length:=by omega
   subst this
   rw[List.take_length]
   have st1:=c171 d.flows[k].up hs1
   have st2:=c171 d.flows[k].down hs2
   have fl:=c172 (d.flows.take k) d.flows[k].ins d.flows[k].out (by simp;omega)
   with_reducible repeat' (first|refine br ?_ ?_<;>intro h e<;>(try simp only[e,go_sem,hix2])<;>clear e|rw[i64w (by omega)]|refine sd ?_<;>try simp only[go_sem,hix2]|(first|refine cr (c95 ..) ?_|refine cr (st1 ..) ?_|refine cr (st2 ..) ?_|refine cr (fl ..) ?_)<;>try simp only[go_sem,hix2]|fail)
   all_goals first
    | (have hb:okFlow d k=false:=by rw[hok];simp_all
       rw[doorOk_bad hil hb])
    | skip
   refine⟨k+1,by omega,⟨by omega,fun j hj=>?_⟩,(leQ [])⟩
   rcases Nat.lt_or_ge j k with hjk|hjk
   ·exact ha j hjk
   ·obtain rfl:j=k:=by omega
    rw[hok];simp_all
 ·simp only[eq_false h,go_sem]
  have:k=d.flows.length:=by omega
  subst this
  rw[doorOk_iff.2 ⟨hm,by omega,ha⟩]
def ic141:IC:=sR [oP 1 (.box 38 (.t 0)),oP 2 (.alloc 38 [.nils,.nils])] (sR [fD 6 0 1,lD 7 1 6,oP 8 (.call 173 [.t 7]),oP 9 (.bsl 181 8 []),oP 10 (.build [.nils,.nils] [(0,(1,.t 8)),(1,(1,.t 9))]),oP 3 (.alloc 38 [.nils,.nils]),nP (.sto 2 (.t 3) (.t 10))] (.seq (sR [oP 4 (.mv (.c i0))] (.block 0 (.loop (.seq (sR [mV 11 4,fD 12 1 1,lD 13 1 12,oP 14 (.len (.t 13)),bN 15 .lss 11 14] (.cond (.t 15) .skip (.exit 0))) (.seq (.block 1 (sR [fD 18 1 1,lD 19 1 18,mV 20 4,oP 21 (.iad 8 (.t 19) (.t 20)),lA 22 8 21,oP 5 (.alloc 181 [i0,i0,i0,i0,s0,.nils,s0,.nils]),nP (.sto 8 (.t 5) (.t 22))] (sR [fD 23 4 5,lA 24 2 23,oP 25 (.call 174 [.t 24]),fD 26 4 5,nP (.sto 2 (.t 26) (.t 25))] (sR [fD 27 6 5,lA 28 2 27,oP 29 (.call 174 [.t 28]),fD 30 6 5,nP (.sto 2 (.t 30) (.t 29))] (.reg [fD 31 1 3,lD 32 1 31,lA 33 8 5,oP 34 (.bsl 181 8 [.t 33]),oP 35 (.app 181 8 (.t 32) (.t 34)),fD 36 1 3,nP (.sto 1 (.t 36) (.t 35))]))))) (.reg [mV 16 4,oP 17 (.bin .add (.t 16) (.c (.int .i64 1))),mV 4 17])))))) (sR [lA 37 2 3,nP (.sto 2 (.t 2) (.t 37))] .ret)))
theorem dg141:Dg Tryz.prog 141 Tryz.f141 ic141 [(.cell 2 2 true)]:=⟨Tryz.func141,by kernel_rfl,by kernel_rfl⟩
theorem c141 (rows:List (List V)) (fs:List Flw) (hr:rows.length≤2000000) (hf:fs.length≤1000000) (h:∀f∈fs,f.up.parts.length≤2000000∧f.down.parts.length≤2000000) :
 FnP Tryz.prog G 141 0 [] [.agg [.sl 3 rows,.sl 8 (fs.map Flw.row)]] (fun r o=>r=.agg [.own 0 rows.length,.own 1 fs.length]∧o=[.arr 88 3 rows,.arr 181 8 (fs.map Flw.row)]):=by
 refine mP dg141 Tryz.ntmps141 ⟨_,_,rfl,rfl⟩ ?_
 simp only[ic141,go_sem]
 with_reducible repeat' (first|refine br ?_ ?_<;>intro h e<;>(try simp only[e,go_sem])<;>clear e|rw[i64w (by omega)]|refine sd ?_<;>try simp only[go_sem]|fail)
 refine callO (c173 rows hr) [] 8 1 (by simp only[go_sem];first|done|simp) (by simp) (by rintro _ _ ⟨rfl,rfl⟩;simp) (by intro i hi;obtain rfl:i=0:=(by omega);simp only[go_sem]) ?_
 rintro _ _ ⟨rfl,rfl⟩
 simp only[go_sem]
 with_reducible repeat' (first|refine br ?_ ?_<;>intro h e<;>(try simp only[e,go_sem])<;>clear e|rw[i64w (by omega)]|refine sd ?_<;>try simp only[go_sem]|fail)
 refine loopN (fun k:Nat=>⟨getL [(1,.pv 1001 0),(2,.pv 1002 0),(3,.pv 1003 0),(4,.int .i64 (k:Int))],getH [(1001,.var 38 [.sl 3 rows,.sl 8 (fs.map Flw.row)]),(1002,.var 38 [.nils,.nils]),(1003,.var 38 [.own 100800 rows.length,.own 1009 k]),(100800,.arr 88 3 rows),(1009,.arr 181 8 ((fs.take k).map Flw.row))]⟩) (fun k=>fs.length - k)
  (fun k=>k≤fs.length) 0 (leQ []) (Nat.zero_le _) ?_
 intro k hk
 simp only[go_sem]
 by_cases h5:(k:Int)<fs.length
 ·have hil:k<fs.length:=by omega
  have hg:fs.getD k default=fs[k]:=by simp[List.getD,hil]
  have hlen:(fs.take k).length=k:=by simp;omega
  have hb:=h _ (List.getElem_mem hil)
  have c1:=c174 fs[k].up.inn (fs[k].up.parts.map Part.row) (by simp;omega)
  have c2:=c174 fs[k].down.inn (fs[k].down.parts.map Part.row) (by simp;omega)
  simp only[eq_true h5,go_sem]
  with_reducible repeat' (first|refine br ?_ ?_<;>intro h e<;>(try simp only[e,go_sem,hg,hlen])<;>clear e|rw[i64w (by omega)]|refine sd ?_<;>try simp only[go_sem,hg,hlen]|(first|refine cr (c1 ..) ?_|refine cr (c2 ..) ?_)<;>try simp only[go_sem,hg,hlen]|fail)
  refine⟨k+1,by omega,by omega,leN [(1009,1035)] ?_ ?_ (by simp[getN]) (by simp only[go_sem])⟩
  ·simp only[go_sem];first|done|omega
  ·simp only[go_sem];rw[List.take_add_one,zE hil];simp only[Option.toList_some,List.map_append,List.map_cons,List.map_nil,Flw.row]
 ·simp only[eq_false h5,go_sem]
  have:k=fs.length:=by omega
  subst this
  rw[List.take_length]
  with_reducible repeat' (first|refine br ?_ ?_<;>intro h e<;>(try simp only[e,go_sem])<;>clear e|rw[i64w (by omega)]|refine sd ?_<;>try simp only[go_sem]|fail)
  refine retN (.agg [.own 0 rows.length,.own 1 fs.length]) [.arr 88 3 rows,.arr 181 8 (fs.map Flw.row)] [(0,100800),(1,1009)] ?_ ⟨rfl,rfl⟩ ?_ (by simp[argH,getN]) (by simp only[go_sem])
  ·simp only[go_sem]
  ·simp only[go_sem]
structure PutOk (m:List Pair) (s:Strm) (n:Int) (t:B):Prop where
 m:mapOk m=true
 s:strmOk s=true
 n:0≤n∧n≤999
 t:t.length≤40
def ic203:IC:=sR [oP 5 (.box 179 (.t 0)),oP 10 (.mv (.c .nils)),oP 11 (.alloc 179 [s0,.nils]),oP 12 (.mv (.c (.bool false)))] (sR [fD 24 0 5,lD 25 1 24,mV 26 2,mV 27 3,oP 28 (.call 157 [.t 25,.t 26,.t 27]),mV 23 28,eX 29 23 0,eX 30 23 1,mV 13 29,mV 14 30] (.seq (sR [mV 31 14,oP 32 (.un .not (.t 31))] (.cond (.t 32) (.seq (.drw [0,0,1,7,15] [(0,mV 33 1),(1,lA 34 2 5),(2,mV 10 33),(3,nP (.sto 2 (.t 11) (.t 34))),(4,oP 12 (.mv (.c (.bool false))))]) .ret) .skip)) (.seq (.drw [0,1,0,4,12,31,63] [(0,mV 35 13),(1,oP 36 (.call 148 [.t 35])),(2,fD 37 1 5),(3,lD 38 1 37),(4,oP 39 (.len (.t 38))),(5,oP 40 (.slv 4 (.t 36) (some (.t 39)) none)),(6,mV 15 40)]) (sR [oP 16 (.mv (.c i0))] (.seq (sR [fD 41 1 5,lD 42 1 41,oP 43 (.len (.t 42)),oP 44 (.mv (.c i0))] (.block 0 (.loop (sR [bN 45 .lss 44 43] (.seq (.cond (.t 45) .skip (.exit 0)) (.seq (.block 1 (sR [oP 46 (.iad 2 (.t 42) (.t 44)),lA 47 2 46,oP 18 (.alloc 204 [i0,s0]),nP (.sto 2 (.t 18) (.t 47))] (.reg [mV 48 16,fD 49 0 18,lD 50 1 49,bN 51 .add 48 50,mV 16 51]))) (.reg [oP 52 (.bin .add (.t 44) (.c (.int .i64 1))),mV 44 52]))))))) (sR [mV 54 1,mV 55 15,mV 56 13,mV 57 16,oP 58 (.sls (.t 56) (some (.t 57)) none),mV 59 4,oP 60 (.call 218 [.t 54,.t 55,.t 58,.t 59]),mV 53 60,eX 61 53 0,eX 62 53 1,mV 19 61,mV 20 62] (sR [mV 63 13,fD 64 1 5,lD 65 1 64,oP 66 (.call 219 [.t 65]),oP 67 (.build [s0,.nils] [(0,(1,.t 63)),(1,(1,.t 66))]),nP (.sto 2 (.t 5) (.t 67))] (.seq (sR [mV 68 15,oP 69 (.len (.t 68)),oP 70 (.mv (.c i0))] (.block 2 (.loop (sR [bN 71 .lss 70 69] (.seq (.cond (.t 71) .skip (.exit 2)) (.seq (.block 3 (sR [mV 72 70,oP 73 (.iad 4 (.t 68) (.t 70)),lA 74 4 73,oP 22 (.alloc 128 [i0,.bool false,i0,i0]),mV 21 72,nP (.sto 4 (.t 22) (.t 74))] (.drw [0,1,0,4,0,0,48,112,252,508,1023,2047,4095] [(0,fD 75 1 5),(1,lD 76 1 75),(2,fD 77 0 22),(3,lD 78 1 77),(4,mV 79 20),(5,mV 80 21),(6,oP 81 (.iad 1 (.t 79) (.t 80))),(7,lD 82 1 81),(8,oP 83 (.build [i0,s0] [(0,(1,.t 78)),(1,(1,.t 82))])),(9,oP 84 (.bsl 204 2 [.t 83])),(10,oP 85 (.app 204 2 (.t 76) (.t 84))),(11,fD 86 1 5),(12,nP (.sto 1 (.t 86) (.t 85)))]))) (.reg [oP 87 (.bin .add (.t 70) (.c (.int .i64 1))),mV 70 87]))))))) (.seq (.drw [0,0,1,7,15] [(0,mV 88 19),(1,lA 89 2 5),(2,mV 10 88),(3,nP (.sto 2 (.t 11) (.t 89))),(4,oP 12 (.mv (.c (.bool true))))]) .ret)))))))))
theorem dg203:Dg Tryz.prog 203 Tryz.f203 ic203 [(.t 10),(.cell 11 2 true),(.t 12)]:=⟨Tryz.func203,by kernel_rfl,by kernel_rfl⟩
theorem c203 (m:List Pair) (s:Strm) (n:Int) (t:B) (out:Bool) (h:PutOk m s n t):FnR Tryz.prog G 203 [.agg [.str s.inn,.sl 2 (s.parts.map Part.row)],.sl 3 (m.map Pair.row),.int .i64 n,.str t,.bool out]
 (.tup [.sl 3 ((put m s n t out).1.map Pair.row),.agg [.str (put m s n t out).2.1.inn,.sl 2 ((put m s n t out).2.1.parts.map Part.row)],.bool (put m s n t out).2.2]):=by
 refine mF dg203 Tryz.ntmps203 ?_
 obtain⟨hm,hs,hn,ht⟩:=h
 obtain⟨hp,hml⟩:=mapOk_ports hm
 obtain⟨s1,s2,s3⟩:=strmOk_B hs
 simp only[ic203,go_sem]
 refine callR (c157 s.inn n t (by omega) (by omega) (by omega)) rfl rfl ?_
 simp only[go_sem]
 cases hb:(behind s.inn n t).2<;>simp only[go_sem]
 ·with_reducible repeat' (first|rw[i64w (by omega)];try simp only[go_sem]|refine br ?_ ?_<;>intro h e<;>(try simp only[e,go_sem])<;>clear e|refine sd ?_<;>try simp only[go_sem]|fail)
  simp[put,hb]
 obtain⟨x,hx,hx40⟩:=behind_app hb
 obtain⟨f1,f2,f3,f4⟩:=put_fits hs x
 have hpl:=pieces_len (behind s.inn n t).1
 have hput:put m s n t out=((turned m ((pieces (behind s.inn n t).1).drop s.parts.length) ((behind s.inn n t).1.drop (doneP s.parts)) out).1,
  ⟨(behind s.inn n t).1,s.parts++mkParts ((pieces (behind s.inn n t).1).drop s.parts.length) (turned m ((pieces (behind s.inn n t).1).drop s.parts.length) ((behind s.inn n t).1.drop (doneP s.parts)) out).2⟩,true):=by
  simp[put,hb]
 rw[hput]
 rw[←hx] at f1 f2 f3 f4
 generalize (behind s.inn n t).1=inn at *
 have hil:inn.length≤80:=by rw[hx];simp;omega
 with_reducible repeat' (first|rw[i64w (by omega)];try simp only[go_sem]|refine br ?_ ?_<;>intro h e<;>(try simp only[e,go_sem])<;>clear e|refine sd ?_<;>try simp only[go_sem]|(first|refine cr (c148 ..) ?_)<;>try simp only[go_sem]|fail)
 refine loopN (fun i:Nat=>⟨getL [(1,.sl 3 (m.map Pair.row)),(4,.bool out),(5,.pv 1005 0),(11,.pv 1011 0),(13,.str inn),(15,.sl 4 (((pieces inn).drop s.parts.length).map Pc.row)),(16,.int .i64 (doneP (s.parts.take i))),(42,.sl 2 (s.parts.map Part.row)),(43,.int .i64 s.parts.length),(44,.int .i64 (i:Int))],
  getH [(1005,.var 179 [.str s.inn,.sl 2 (s.parts.map Part.row)]),(1011,.var 179 [.str [],.nils])]⟩) (fun i=>s.parts.length - i) (fun i=>i≤s.parts.length) 0 ?_ (Nat.zero_le _) ?_
 ·refine leN [] ?_ (by simp only[go_sem]) (by simp[getN]) (by simp only[go_sem])
  simp only[go_sem]
  rw[List.take_length];exact⟨rfl,rfl⟩
 intro i hi
 simp only[go_sem]
 have hdl:=doneL_le (l:=s.parts) (fun p hp=>(s3 p hp).1.2) i
 by_cases h:(i:Int)<s.parts.length
 ·have hil:i<s.parts.length:=by omega
  have hst:=doneL_step hil
  have h3':=(s3 _ (List.getElem_mem hil)).1
  have hg:s.parts.getD i default=s.parts[i]:=by simp[List.getD,hil]
  simp only[eq_true h,go_sem]
  refine effG (by omega) ?_
  simp only[hg,go_sem]
  with_reducible repeat' (first|rw[i64w (by omega)];try simp only[go_sem]|refine br ?_ ?_<;>intro h e<;>(try simp only[e,go_sem])<;>clear e|refine sd ?_<;>try simp only[go_sem]|fail)
  refine⟨i+1,by omega,by omega,leN [] (by simp only[go_sem,hst];omega) (by simp only[go_sem]) (by simp[getN]) (by simp only[go_sem])⟩
 ·simp only[eq_false h,go_sem]
  have:i=s.parts.length:=by omega
  subst this
  rw[List.take_length] at *
  with_reducible repeat' (first|rw[i64w (by omega)];try simp only[go_sem]|refine br ?_ ?_<;>intro h e<;>(try simp only[e,go_sem])<;>clear e|refine sd ?_<;>try simp only[go_sem]|fail)
  rw[List.take_length]
  refine callR (c218 m _ _ out hp (by omega) (by simp;omega) (by simp;omega) f4) rfl rfl ?_
  simp only[go_sem]
  refine callO (c219 (s.parts.map Part.row) (by simp;omega)) [] 66 1 (by simp only[go_sem];first|done|simp) (by simp) (by rintro _ _ ⟨rfl,rfl⟩;simp) (by intro i hi;obtain rfl:i=0:=(by omega);simp only[go_sem]) ?_
  rintro _ _ ⟨rfl,rfl⟩
  simp only[go_sem]
  have htl:=turned_len ((pieces inn).drop s.parts.length) m (inn.drop (doneP s.parts)) out
  generalize turned m ((pieces inn).drop s.parts.length) (inn.drop (doneP s.parts)) out=r at *
  have hll:((pieces inn).drop s.parts.length).length≤80:=by simp;omega
  generalize (pieces inn).drop s.parts.length=l at *
  refine loopN (fun i:Nat=>⟨getL [(5,.pv 1005 0),(11,.pv 1011 0),(19,.sl 3 (r.1.map Pair.row)),(20,.sl 1 (r.2.map fun x=>[.str x])),(68,.sl 4 (l.map Pc.row)),(69,.int .i64 l.length),(70,.int .i64 (i:Int))],
   getH [(1005,.var 179 [.str inn,.own 106600 (s.parts.length+i)]),(1011,.var 179 [.str [],.nils]),(106600,.arr 204 2 ((s.parts++mkParts (l.take i) (r.2.take i)).map Part.row))]⟩) (fun i=>l.length - i) (fun i=>i≤l.length) 0 ?_ (Nat.zero_le _) ?_
  ·refine leN [] (by simp only[go_sem];first|done|rfl) ?_ (by simp[getN]) (by simp only[go_sem])
   simp only[go_sem];simp[mkParts]
  intro i hi
  simp only[go_sem]
  by_cases h2:(i:Int)<l.length
  ·have hil2:i<l.length:=by omega
   have hst:=mkParts_step l r.2 i htl hil2
   have hml:(mkParts (l.take i) (r.2.take i)).length=i:=by
    rw[mkParts_len (by simp;omega)];simp;omega
   have hml2:(s.parts++mkParts (l.take i) (r.2.take i)).length=s.parts.length+i:=by simp[hml]
   simp only[eq_true h2,go_sem]
   refine effG (by omega) ?_
   simp only[go_sem]
   with_reducible repeat' (first|rw[i64w (by omega)];try simp only[go_sem]|refine br ?_ ?_<;>intro h e<;>(try simp only[e,go_sem])<;>clear e|refine sd ?_<;>try simp only[go_sem]|fail)
   refine⟨i+1,by omega,by omega,leN [(106600,1085)] ?_ ?_ (by simp[getN]) (by simp only[go_sem])⟩
   ·simp only[go_sem];omega
   ·simp only[go_sem,hst];simp[Part.row];omega
  ·simp only[eq_false h2,go_sem]
   have:i=l.length:=by omega
   subst this
   rw[List.take_length,←htl,List.take_length]
   with_reducible repeat' (first|rw[i64w (by omega)];try simp only[go_sem]|refine br ?_ ?_<;>intro h e<;>(try simp only[e,go_sem])<;>clear e|refine sd ?_<;>try simp only[go_sem]|fail)
   first|exact⟨rfl,by rw[zA,mkParts_len htl,htl]⟩|rw[zA,mkParts_len htl,htl]
def acksR (s:Strm) (p:Pk):Pk×Bool:=if p.at_>(sOut s).length then(.zero,false) else({ p with at_:=backP s.parts p.at_ },true)
def ic182:IC:=sR [oP 2 (.box 179 (.t 0)),oP 3 (.box 70 (.t 1)),oP 4 (.alloc 70 [i0,i0,i0,i0,i0,i0,s0]),oP 5 (.mv (.c (.bool false)))] (.seq (.seq (.drw [0,1,0,4,12,31] [(0,fD 6 5 3),(1,lD 7 1 6),(2,lA 8 2 2),(3,oP 9 (.call 201 [.t 8])),(4,oP 10 (.lens (.t 9))),(5,bN 11 .gtr 7 10)]) (.cond (.t 11) (sR [oP 12 (.build [i0,i0,i0,i0,i0,i0,s0] []),nP (.sto 7 (.t 4) (.t 12)),oP 5 (.mv (.c (.bool false)))] .ret) .skip)) (sR [lA 13 2 2,fD 14 5 3,lD 15 1 14,oP 16 (.call 202 [.t 13,.t 15]),fD 17 5 3,nP (.sto 1 (.t 17) (.t 16))] (sR [lA 18 7 3,nP (.sto 7 (.t 4) (.t 18)),oP 5 (.mv (.c (.bool true)))] .ret)))
theorem dg182:Dg Tryz.prog 182 Tryz.f182 ic182 [(.cell 4 7 true),(.t 5)]:=⟨Tryz.func182,by kernel_rfl,by kernel_rfl⟩
theorem c182 (s:Strm) (p:Pk) (h:StrB s) (hp : -10000≤p.at_∧p.at_≤10000):FnR Tryz.prog G 182 [.agg [.str s.inn,.sl 2 (s.parts.map Part.row)],.agg [.int .i64 p.kind,.int .i64 p.frm.a,.int .i64 p.frm.p,.int .i64 p.to.a,.int .i64 p.to.p,.int .i64 p.at_,.str p.text]]
 (.tup [.agg (Pk.row (acksR s p).1),.bool (acksR s p).2]):=by
 refine mF dg182 Tryz.ntmps182 ?_
 have so:=sOut_len h
 have f1:=c201 s h
 have f2:=c202 s p.at_ h hp
 simp only[ic182,go_sem]
 with_reducible repeat' (first|refine br ?_ ?_<;>intro h e<;>(try simp only[e,go_sem])<;>clear e|rw[i64w (by omega)]|refine sd ?_<;>try simp only[go_sem]|(first|refine cr (f1 ..) ?_|refine cr (f2 ..) ?_)<;>try simp only[go_sem]|fail)
 ·simp only[acksR];rw[if_pos (by omega)];simp[Pk.zero,E.zero]
 ·simp only[acksR];rw[if_neg (by omega)];simp
theorem r199 (rows:List (List V)) (hr:rows.length≤2000000):FnR Tryz.prog G 199 [.sl 3 rows] (.sl 3 rows):=by
 refine mF dg199 Tryz.ntmps199 ?_
 simp only[ic199,go_sem]
 refine callO (c217 rows hr) [] 4 1 (by simp only[go_sem];first|done|simp) (by simp) (by rintro _ _ ⟨rfl,rfl⟩;simp) (by intro i hi;obtain rfl:i=0:=(by omega);simp only[go_sem]) ?_
 rintro _ _ ⟨rfl,rfl⟩
 simp only[go_sem]
 refine callU (o200 rows rows.length rfl) [100400] [] 5 1 (by simp only[go_sem];first|done|simp) (by simp only[go_sem];first|done|simp) (by simp) (by simp) (by rintro _ _ ⟨rfl,rfl⟩;simp) (by intro i hi;obtain rfl:i=0:=(by omega);simp only[go_sem]) ?_
 rintro _ _ ⟨rfl,rfl⟩
 simp only[go_sem]
def ic183:IC:=sR [oP 6 (.box 70 (.t 2)),oP 8 (.alloc 70 [i0,i0,i0,i0,i0,i0,s0]),oP 9 (.mv (.c (.bool false)))] (sR [mV 17 1,oP 18 (.nilc (.t 17)),fD 19 0 18,lD 20 1 19,oP 21 (.lens (.t 20)),mV 10 21] (.seq (.drw [0,1,3,0,8,24,56,0,128,0,512,0,4095,8191,16383,16383,16383,0,163839,458751,1048575] [(0,mV 23 1),(1,oP 24 (.nilc (.t 23))),(2,lA 25 2 24),(3,mV 26 0),(4,oP 27 (.nilc (.t 26))),(5,fD 28 0 27),(6,lD 29 1 28),(7,fD 30 5 6),(8,lD 31 1 30),(9,fD 32 6 6),(10,lD 33 1 32),(11,mV 34 3),(12,oP 35 (.call 203 [.t 25,.t 29,.t 31,.t 33,.t 34])),(13,mV 22 35),(14,eX 36 22 0),(15,eX 37 22 1),(16,eX 38 22 2),(17,oP 12 (.alloc 179 [s0,.nils])),(18,mV 11 36),(19,nP (.sto 2 (.t 12) (.t 37))),(20,mV 13 38)]) (.seq (sR [mV 39 13,oP 40 (.un .not (.t 39))] (.cond (.t 40) (sR [oP 41 (.build [i0,i0,i0,i0,i0,i0,s0] []),nP (.sto 7 (.t 8) (.t 41)),oP 9 (.mv (.c (.bool false)))] .ret) .skip)) (.seq (.drw [0,0,0,4,0,13,45,109,255,511] [(0,mV 42 0),(1,mV 43 1),(2,mV 44 11),(3,oP 45 (.call 199 [.t 44])),(4,lA 46 2 12),(5,oP 47 (.nilc (.t 42))),(6,fD 48 0 47),(7,nP (.sto 1 (.t 48) (.t 45))),(8,oP 49 (.nilc (.t 43))),(9,nP (.sto 2 (.t 49) (.t 46)))]) (sR [mV 50 1,oP 51 (.nilc (.t 50)),lA 52 2 51,oP 53 (.call 201 [.t 52]),mV 14 53] (.seq (.drw [0,1,3,0,8,31,0,64,63,511] [(0,mV 54 1),(1,oP 55 (.nilc (.t 54))),(2,lA 56 2 55),(3,fD 57 5 6),(4,lD 58 1 57),(5,oP 59 (.call 204 [.t 56,.t 58])),(6,mV 60 14),(7,oP 61 (.lens (.t 60))),(8,mV 15 59),(9,mV 16 61)]) (.seq (sR [mV 62 1,oP 63 (.nilc (.t 62)),fD 64 0 63,lD 65 1 64,oP 66 (.lens (.t 65)),mV 67 10,bN 68 .eql 66 67] (.cond (.t 68) (.drw [0,1,3,0,8,0,32,96,248,0,1016,2047,4095] [(0,mV 69 1),(1,oP 70 (.nilc (.t 69))),(2,lA 71 2 70),(3,fD 72 5 6),(4,lD 73 1 72),(5,fD 74 6 6),(6,lD 75 1 74),(7,oP 76 (.lens (.t 75))),(8,bN 77 .add 73 76),(9,mV 78 10),(10,oP 79 (.mn (.t 77) (.t 78))),(11,oP 80 (.call 204 [.t 71,.t 79])),(12,mV 16 80)]) .skip)) (.seq (.drw [0,0,0,0,0,24,62,1,129,511,1023] [(0,mV 81 15),(1,mV 82 14),(2,mV 83 15),(3,mV 84 16),(4,mV 85 15),(5,oP 86 (.mx (.t 84) (.t 85))),(6,oP 87 (.sls (.t 82) (some (.t 83)) (some (.t 86)))),(7,fD 88 5 6),(8,nP (.sto 1 (.t 88) (.t 81))),(9,fD 89 6 6),(10,nP (.sto 1 (.t 89) (.t 87)))]) (.seq (.drw [0,0,2,6,14,31,63] [(0,lA 90 7 6),(1,fD 91 6 6),(2,lD 92 1 91),(3,oP 93 (.lens (.t 92))),(4,oP 94 (.call 76 [.t 93,.c (.int .i64 1),.c (.int .i64 40)])),(5,nP (.sto 7 (.t 8) (.t 90))),(6,mV 9 94)]) .ret)))))))))
theorem dg183:Dg Tryz.prog 183 Tryz.f183 ic183 [(.cell 8 7 true),(.t 9)]:=⟨Tryz.func183,by kernel_rfl,by kernel_rfl⟩
def ic156:IC:=sR [oP 3 (.box 70 (.t 1)),oP 4 (.alloc 70 [i0,i0,i0,i0,i0,i0,s0]),oP 5 (.mv (.c (.bool false)))] (.seq (.drw [0,1,3,7,0,16,48,127,255,511,511,0,3071,8191] [(0,mV 10 0),(1,oP 11 (.nilc (.t 10))),(2,fD 12 0 11),(3,lD 13 1 12),(4,fD 14 3 3),(5,fD 15 1 14),(6,lD 16 1 15),(7,oP 17 (.call 184 [.t 13,.t 16])),(8,mV 9 17),(9,eX 18 9 0),(10,eX 19 9 1),(11,oP 6 (.alloc 45 [i0,i0])),(12,nP (.sto 2 (.t 6) (.t 18))),(13,mV 7 19)]) (.seq (.drw [0,1,3,0,0,16,63,127] [(0,mV 20 0),(1,oP 21 (.nilc (.t 20))),(2,lA 22 2 21),(3,lA 23 2 6),(4,fD 24 1 3),(5,lA 25 2 24),(6,oP 26 (.call 180 [.t 22,.t 23,.t 25])),(7,mV 8 26)]) (.seq (sR [mV 27 7,oP 28 (.un .not (.t 27)),mV 29 28,⟨some 30,some (29,false),.mv (.t 8)⟩,⟨some 31,some (29,false),.bin .lss (.t 30) (.c i0)⟩,oP 32 (.pick (.t 29) (.c (.bool true)) (.t 31))] (.cond (.t 32) (sR [oP 33 (.build [i0,i0,i0,i0,i0,i0,s0] []),nP (.sto 7 (.t 4) (.t 33)),oP 5 (.mv (.c (.bool false)))] .ret) .skip)) (sR [lA 34 2 6,fD 35 3 3,nP (.sto 2 (.t 35) (.t 34))] (.seq (sR [fD 36 0 3,lD 37 1 36,oP 38 (.bin .eql (.t 37) (.c (.int .i64 2)))] (.cond (.t 38) (.seq (.drw [0,1,3,7,0,31,63,127,0,511,1023,1023,4095,8191] [(0,mV 39 0),(1,oP 40 (.nilc (.t 39))),(2,fD 41 1 40),(3,lD 42 1 41),(4,mV 43 8),(5,oP 44 (.iad 8 (.t 42) (.t 43))),(6,fD 45 4 44),(7,lA 46 2 45),(8,lA 47 7 3),(9,oP 48 (.call 182 [.t 46,.t 47])),(10,eX 49 48 0),(11,eX 50 48 1),(12,nP (.sto 7 (.t 4) (.t 49))),(13,mV 5 50)]) .ret) .skip)) (.seq (.drw [0,0,2,6,14,0,62,126,0,511,1023,1023,4095,8191] [(0,mV 51 0),(1,mV 52 0),(2,oP 53 (.nilc (.t 52))),(3,fD 54 1 53),(4,lD 55 1 54),(5,mV 56 8),(6,oP 57 (.iad 8 (.t 55) (.t 56))),(7,fD 58 6 57),(8,lA 59 7 3),(9,oP 60 (.call 183 [.t 51,.t 58,.t 59,.c (.bool false)])),(10,eX 61 60 0),(11,eX 62 60 1),(12,nP (.sto 7 (.t 4) (.t 61))),(13,mV 5 62)]) .ret))))))
theorem dg156:Dg Tryz.prog 156 Tryz.f156 ic156 [(.cell 4 7 true),(.t 5)]:=⟨Tryz.func156,by kernel_rfl,by kernel_rfl⟩
theorem openF_full {d:Door} {i o:E} (h:flowIx d.flows i o=none) (h3:¬d.flows.length<4):openR d i o=(d,0,false):=by
 rcases hm:mOut d.map i with⟨m,n,ok⟩
 cases ok<;>simp[openR,openF,h,hm,h3]
theorem getD_last (l:List (List V)) (r:List V) {n:Nat} (h:n=l.length) (x:List V):(l++[r]).getD n x=r:=by
 subst h;simp[List.getD]
theorem rowsNew (fs:List Flw) (i o:E):RowsW (fs.map Flw.row++[[.int .i64 i.a,.int .i64 i.p,.int .i64 o.a,.int .i64 o.p,.str [],.nils,.str [],.nils]]) ((fs++[Flw.mk i o .zero .zero]).map Flw.row):=by
 rw[List.map_append]
 exact RowsW.app (RowsW.refl _) (RowsW.one (.same _ (.same _ (.same _ (.same _ (.same _ (.nils 2 (.same _ (.nils 2 .nil)))))))))
def ic155:IC:=sR [oP 3 (.box 70 (.t 1)),oP 4 (.alloc 70 [i0,i0,i0,i0,i0,i0,s0]),oP 5 (.mv (.c (.bool false)))] (.seq (.drw [0,1,3,0,8,0,32,127,255] [(0,mV 10 0),(1,oP 11 (.nilc (.t 10))),(2,lA 12 2 11),(3,fD 13 1 3),(4,lA 14 2 13),(5,fD 15 3 3),(6,lA 16 2 15),(7,oP 17 (.call 180 [.t 12,.t 14,.t 16])),(8,mV 6 17)]) (.seq (sR [mV 18 6,oP 19 (.bin .lss (.t 18) (.c i0))] (.cond (.t 19) (.seq (.drw [0,1,3,7,0,16,63,127,255,255,255,511,3071,8191] [(0,mV 21 0),(1,oP 22 (.nilc (.t 21))),(2,fD 23 0 22),(3,lD 24 1 23),(4,fD 25 1 3),(5,lA 26 2 25),(6,oP 27 (.call 181 [.t 24,.t 26])),(7,mV 20 27),(8,eX 28 20 0),(9,eX 29 20 1),(10,eX 30 20 2),(11,mV 7 28),(12,mV 8 29),(13,mV 9 30)]) (.seq (sR [mV 31 9,oP 32 (.un .not (.t 31)),mV 33 32,⟨some 34,some (33,false),.mv (.t 0)⟩,⟨some 35,some (33,false),.nilc (.t 34)⟩,⟨some 36,some (33,false),.fad 1 (.t 35)⟩,⟨some 37,some (33,false),.ld 1 false (.t 36)⟩,⟨some 38,some (33,false),.len (.t 37)⟩,⟨some 39,some (33,false),.bin .geq (.t 38) (.c (.int .i64 4))⟩,oP 40 (.pick (.t 33) (.c (.bool true)) (.t 39))] (.cond (.t 40) (sR [oP 41 (.build [i0,i0,i0,i0,i0,i0,s0] []),nP (.sto 7 (.t 4) (.t 41)),oP 5 (.mv (.c (.bool false)))] .ret) .skip)) (sR [mV 42 0,oP 43 (.nilc (.t 42)),fD 44 1 43,lD 45 1 44,oP 46 (.len (.t 45)),mV 6 46] (sR [mV 47 0,mV 48 7,oP 49 (.nilc (.t 47)),fD 50 0 49,nP (.sto 1 (.t 50) (.t 48))] (.drw [0,0,2,6,14,0,32,0,128,480,992,2046,4095,8191,16383] [(0,mV 51 0),(1,mV 52 0),(2,oP 53 (.nilc (.t 52))),(3,fD 54 1 53),(4,lD 55 1 54),(5,fD 56 1 3),(6,lA 57 2 56),(7,fD 58 3 3),(8,lA 59 2 58),(9,oP 60 (.build [i0,i0,i0,i0,s0,.nils,s0,.nils] [(0,(2,.t 57)),(2,(2,.t 59))])),(10,oP 61 (.bsl 181 8 [.t 60])),(11,oP 62 (.app 181 8 (.t 55) (.t 61))),(12,oP 63 (.nilc (.t 51))),(13,fD 64 1 63),(14,nP (.sto 1 (.t 64) (.t 62)))]))))) .skip)) (.seq (.drw [0,1,3,7,0,16,63,127,255,511] [(0,mV 65 0),(1,oP 66 (.nilc (.t 65))),(2,fD 67 0 66),(3,lD 68 1 67),(4,fD 69 1 3),(5,lA 70 2 69),(6,oP 71 (.call 125 [.t 68,.t 70])),(7,oP 72 (.build [i0,i0] [(0,(1,.c (.int .i64 9))),(1,(1,.t 71))])),(8,fD 73 1 3),(9,nP (.sto 2 (.t 73) (.t 72)))]) (.seq (sR [fD 74 0 3,lD 75 1 74,oP 76 (.bin .eql (.t 75) (.c (.int .i64 2)))] (.cond (.t 76) (.seq (.drw [0,1,3,7,0,31,63,127,0,511,1023,1023,4095,8191] [(0,mV 77 0),(1,oP 78 (.nilc (.t 77))),(2,fD 79 1 78),(3,lD 80 1 79),(4,mV 81 6),(5,oP 82 (.iad 8 (.t 80) (.t 81))),(6,fD 83 6 82),(7,lA 84 2 83),(8,lA 85 7 3),(9,oP 86 (.call 182 [.t 84,.t 85])),(10,eX 87 86 0),(11,eX 88 86 1),(12,nP (.sto 7 (.t 4) (.t 87))),(13,mV 5 88)]) .ret) .skip)) (.seq (.drw [0,0,2,6,14,0,62,126,0,511,1023,1023,4095,8191] [(0,mV 89 0),(1,mV 90 0),(2,oP 91 (.nilc (.t 90))),(3,fD 92 1 91),(4,lD 93 1 92),(5,mV 94 6),(6,oP 95 (.iad 8 (.t 93) (.t 94))),(7,fD 96 4 95),(8,lA 97 7 3),(9,oP 98 (.call 183 [.t 89,.t 96,.t 97,.c (.bool true)])),(10,eX 99 98 0),(11,eX 100 98 1),(12,nP (.sto 7 (.t 4) (.t 99))),(13,mV 5 100)]) .ret)))))
theorem dg155:Dg Tryz.prog 155 Tryz.f155 ic155 [(.cell 4 7 true),(.t 5)]:=⟨Tryz.func155,by kernel_rfl,by kernel_rfl⟩
theorem copyC {d:Door} (hd:doorOk d=true):∀f∈d.flows,f.up.parts.length≤2000000∧f.down.parts.length≤2000000:=fun f hf=>by
 obtain⟨k,hk⟩:=List.mem_iff_getElem?.1 hf
 obtain⟨_,_,h1,h2,_⟩:=flow_at hd hk
 have:=(strmOk_B h1).2.1
 have:=(strmOk_B h2).2.1
 omega
def ic126:IC:=sR [oP 3 (.box 70 (.t 1)),oP 4 (.alloc 70 [i0,i0,i0,i0,i0,i0,s0]),oP 5 (.mv (.c (.bool false)))] (.seq (.block 0 (sR [lA 7 7 3,oP 8 (.call 154 [.t 7]),mV 6 8] (.cond (.t 6) (sR [mV 9 0,lA 10 7 3,oP 11 (.call 155 [.t 9,.t 10]),eX 12 11 0,eX 13 11 1,nP (.sto 7 (.t 4) (.t 12)),mV 5 13] .ret) (sR [lA 15 7 3,oP 16 (.call 84 [.t 15]),mV 14 16] (.cond (.t 14) (sR [mV 17 0,lA 18 7 3,oP 19 (.call 156 [.t 17,.t 18]),eX 20 19 0,eX 21 19 1,nP (.sto 7 (.t 4) (.t 20)),mV 5 21] .ret) .skip))))) (sR [oP 22 (.build [i0,i0,i0,i0,i0,i0,s0] []),nP (.sto 7 (.t 4) (.t 22)),oP 5 (.mv (.c (.bool false)))] .ret))
theorem dg126:Dg Tryz.prog 126 Tryz.f126 ic126 [(.cell 4 7 true),(.t 5)]:=⟨Tryz.func126,by kernel_rfl,by kernel_rfl⟩
def goesW_up (u:M.World) (m:List Pair) (fs:List Flw) (k:Nat) (p:Pk) (out:Bool) (r:V) (o:List Hs):Prop :=
 ((put m (fs.getD k default).up p.at_ p.text out).2.2=false∧r=.tup [.agg (Pk.row .zero),.bool false]∧o=[.var 41 [.own 2 u.convs.length,.sl 3 (m.map Pair.row),.own 1 fs.length,.own 3 u.nets.length],.arr 181 8 (fs.map Flw.row),.arr 47 10 (u.convs.map Conv.row),.arr 70 7 (u.nets.map Pk.row)]) ∨
 ((put m (fs.getD k default).up p.at_ p.text out).2.2=true∧r=.tup [.agg (Pk.row (goesR (fs.getD k default).up (put m (fs.getD k default).up p.at_ p.text out).2.1 p).1),.bool (goesR (fs.getD k default).up (put m (fs.getD k default).up p.at_ p.text out).2.1 p).2] ∧
   o=[.var 41 [.own 2 u.convs.length,.sl 3 ((put m (fs.getD k default).up p.at_ p.text out).1.map Pair.row),.own 1 fs.length,.own 3 u.nets.length],.arr 181 8 ((fs.set k { fs.getD k default with up:=(put m (fs.getD k default).up p.at_ p.text out).2.1 }).map Flw.row),.arr 47 10 (u.convs.map Conv.row),.arr 70 7 (u.nets.map Pk.row)])
theorem goesW_no_up {u:M.World} {m:List Pair} {fs:List Flw} {k:Nat} {p:Pk} {out:Bool} {f:Flw} {m':List Pair} {s':Strm} (hf:fs.getD k default=f) (hP:put m f.up p.at_ p.text out=(m',s',false)) :
 goesW_up u m fs k p out (.tup [.agg (Pk.row .zero),.bool false]) [.var 41 [.own 2 u.convs.length,.sl 3 (m.map Pair.row),.own 1 fs.length,.own 3 u.nets.length],.arr 181 8 (fs.map Flw.row),.arr 47 10 (u.convs.map Conv.row),.arr 70 7 (u.nets.map Pk.row)]:=by
 unfold goesW_up
 rw[hf,hP]
 exact Or.inl ⟨rfl,rfl,rfl⟩
theorem goesW_yes_up {u:M.World} {m:List Pair} {fs:List Flw} {k:Nat} {p:Pk} {out:Bool} {f:Flw} {m':List Pair} {s':Strm} (hf:fs.getD k default=f) (hP:put m f.up p.at_ p.text out=(m',s',true)) :
 goesW_up u m fs k p out (.tup [.agg (Pk.row (goesR f.up s' p).1),.bool (goesR f.up s' p).2]) [.var 41 [.own 2 u.convs.length,.sl 3 (m'.map Pair.row),.own 1 fs.length,.own 3 u.nets.length],.arr 181 8 ((fs.set k { f with up:=s' }).map Flw.row),.arr 47 10 (u.convs.map Conv.row),.arr 70 7 (u.nets.map Pk.row)]:=by
 unfold goesW_up
 rw[hf,hP]
 exact Or.inr ⟨rfl,rfl,rfl⟩
theorem w183up (u:M.World) (m:List Pair) (fs:List Flw) (k:Nat) (p:Pk) (out:Bool) (hm:mapOk m=true) (hk:k<fs.length) (hs:strmOk (fs.getD k default).up=true) (hp:PkP p) (htx:txOk p.text=true) :
 FnP Tryz.prog G 183 4 [.var 41 [.own 2 u.convs.length,.sl 3 (m.map Pair.row),.own 1 fs.length,.own 3 u.nets.length],.arr 181 8 (fs.map Flw.row),.arr 47 10 (u.convs.map Conv.row),.arr 70 7 (u.nets.map Pk.row)] [.pv 0 1,.pa 1 k 4,.agg [.int .i64 p.kind,.int .i64 p.frm.a,.int .i64 p.frm.p,.int .i64 p.to.a,.int .i64 p.to.p,.int .i64 p.at_,.str p.text],.bool out] (goesW_up u m fs k p out):=by
 refine mP dg183 Tryz.ntmps183 ?_ ?_
 ·cases hb:(put m (fs.getD k default).up p.at_ p.text out).2.2
  ·exact⟨_,_,.inl ⟨hb,rfl,rfl⟩⟩
  ·exact⟨_,_,.inr ⟨hb,rfl,rfl⟩⟩
 have hpa:=hp.at_
 have hpl:=hp.len
 have hpk:=put_ok (m:=m) (s:=(fs.getD k default).up) (n:=p.at_) (t:=p.text) (out:=out) hm hs htx hpa.1
 have sb:=strmOk_B hs
 obtain⟨s1,s2,s3⟩:=sb
 have f0:=c203 m (fs.getD k default).up p.at_ p.text out ⟨hm,hs,hpa,hpl⟩
 have gs:∀R,((fs.map Flw.row).set k R).getD k []=R:=fun R=>by simp[List.getD,hk]
 generalize hf:fs.getD k default=f at *
 simp only[ic183,go_sem,getD_mp hk,hf]
 with_reducible repeat' (first|refine br ?_ ?_<;>intro h e<;>(try simp only[e,go_sem,getD_mp hk,hf])<;>clear e|rw[i64w (by omega)]|refine sd ?_<;>try simp only[go_sem,getD_mp hk,hf]|fail)
 refine callR f0 rfl rfl ?_
 have hml:=(mapOk_ports hpk.1).2
 have sb:=strmOk_B hpk.2
 have so:=sOut_len sb
 have gr:∀a b,forP (put m f.up p.at_ p.text out).2.1.parts p.at_=a→toR f.up (put m f.up p.at_ p.text out).2.1 p=b→goesR f.up (put m f.up p.at_ p.text out).2.1 p=({ p with at_:=a,text:=((sOut (put m f.up p.at_ p.text out).2.1).take (max b a).toNat).drop a.toNat },within (((sOut (put m f.up p.at_ p.text out).2.1).take (max b a).toNat).drop a.toNat).length 1 40):=fun a b ha hb=>by subst ha;subst hb;rfl
 have hto:toR f.up (put m f.up p.at_ p.text out).2.1 p=if f.up.inn.length<(put m f.up p.at_ p.text out).2.1.inn.length then((sOut (put m f.up p.at_ p.text out).2.1).length:Int) else forP (put m f.up p.at_ p.text out).2.1.parts (min (p.at_+p.text.length) (put m f.up p.at_ p.text out).2.1.inn.length):=rfl
 have fo1:0≤forP (put m f.up p.at_ p.text out).2.1.parts p.at_∧forP (put m f.up p.at_ p.text out).2.1.parts p.at_≤(sOut (put m f.up p.at_ p.text out).2.1).length:=forP_le _
 have fo2:0≤forP (put m f.up p.at_ p.text out).2.1.parts (min (p.at_+p.text.length) f.up.inn.length)∧forP (put m f.up p.at_ p.text out).2.1.parts (min (p.at_+p.text.length) f.up.inn.length)≤(sOut (put m f.up p.at_ p.text out).2.1).length:=forP_le _
 have hinn:f.up.inn.length≤(put m f.up p.at_ p.text out).2.1.inn.length:=put_inn ..
 generalize hP:put m f.up p.at_ p.text out=P at *
 obtain⟨m',s',ok⟩:=P
 simp only at hpk hml sb so gr hto fo1 fo2 hinn
 cases ok<;>simp only[go_sem]
 ·with_reducible repeat' (first|refine br ?_ ?_<;>intro h e<;>(try simp only[e,go_sem])<;>clear e|rw[i64w (by omega)]|refine sd ?_<;>try simp only[go_sem]|fail)
  refine retN (.tup [.agg (Pk.row .zero),.bool false]) [.var 41 [.own 2 u.convs.length,.sl 3 (m.map Pair.row),.own 1 fs.length,.own 3 u.nets.length],.arr 181 8 (fs.map Flw.row),.arr 47 10 (u.convs.map Conv.row),.arr 70 7 (u.nets.map Pk.row)] [] ?_ (goesW_no_up hf hP) ?_ (by simp[argH,getN]) (by simp only[go_sem])
  ·simp only[go_sem,Pk.zero,E.zero]
  ·simp only[go_sem]
 have f1:=r199 (m'.map Pair.row) (by simp;omega)
 have f2:=c201 s' sb
 have f3:=c204 s' p.at_ sb (by omega)
 have f4:=c204 s' (min (p.at_+p.text.length) f.up.inn.length) sb (by omega)
 generalize hA:forP s'.parts p.at_=A at *
 generalize hB:forP s'.parts (min (p.at_+p.text.length) f.up.inn.length)=Bb at *
 with_reducible repeat' (first|refine br ?_ ?_<;>intro h e<;>(try simp only[e,go_sem,getD_mp hk,hf,gs])<;>clear e|rw[i64w (by omega)]|refine sd ?_<;>try simp only[go_sem,getD_mp hk,hf,gs]|(first|refine cr (f1 ..) ?_|refine cr (f2 ..) ?_|refine cr (f3 ..) ?_|refine cr (f4 ..) ?_|refine cr (c76 ..) ?_)<;>try simp only[go_sem,getD_mp hk,hf,gs]|fail)
 ·have hto':toR f.up s' p=Bb:=by rw[hto,if_neg (by omega),←hB];congr 2
  have g:=gr A _ rfl hto'
  refine retN (.tup [.agg (Pk.row (goesR f.up s' p).1),.bool (goesR f.up s' p).2]) [.var 41 [.own 2 u.convs.length,.sl 3 (m'.map Pair.row),.own 1 fs.length,.own 3 u.nets.length],.arr 181 8 ((fs.set k { f with up:=s' }).map Flw.row),.arr 47 10 (u.convs.map Conv.row),.arr 70 7 (u.nets.map Pk.row)] [] ?_ (goesW_yes_up hf hP) ?_ (by simp[argH,getN]) (by simp only[go_sem])
  ·simp only[g,go_sem]
  ·simp only[go_sem,List.map_set]
 ·have hto':toR f.up s' p=((sOut s').length:Int):=by rw[hto,if_pos (by omega)]
  have g:=gr A _ rfl hto'
  refine retN (.tup [.agg (Pk.row (goesR f.up s' p).1),.bool (goesR f.up s' p).2]) [.var 41 [.own 2 u.convs.length,.sl 3 (m'.map Pair.row),.own 1 fs.length,.own 3 u.nets.length],.arr 181 8 ((fs.set k { f with up:=s' }).map Flw.row),.arr 47 10 (u.convs.map Conv.row),.arr 70 7 (u.nets.map Pk.row)] [] ?_ (goesW_yes_up hf hP) ?_ (by simp[argH,getN]) (by simp only[go_sem])
  ·simp only[g,go_sem]
  ·simp only[go_sem,List.map_set]
def goesW_down (u:M.World) (m:List Pair) (fs:List Flw) (k:Nat) (p:Pk) (out:Bool) (r:V) (o:List Hs):Prop :=
 ((put m (fs.getD k default).down p.at_ p.text out).2.2=false∧r=.tup [.agg (Pk.row .zero),.bool false]∧o=[.var 41 [.own 2 u.convs.length,.sl 3 (m.map Pair.row),.own 1 fs.length,.own 3 u.nets.length],.arr 181 8 (fs.map Flw.row),.arr 47 10 (u.convs.map Conv.row),.arr 70 7 (u.nets.map Pk.row)]) ∨
 ((put m (fs.getD k default).down p.at_ p.text out).2.2=true∧r=.tup [.agg (Pk.row (goesR (fs.getD k default).down (put m (fs.getD k default).down p.at_ p.text out).2.1 p).1),.bool (goesR (fs.getD k default).down (put m (fs.getD k default).down p.at_ p.text out).2.1 p).2] ∧
   o=[.var 41 [.own 2 u.convs.length,.sl 3 ((put m (fs.getD k default).down p.at_ p.text out).1.map Pair.row),.own 1 fs.length,.own 3 u.nets.length],.arr 181 8 ((fs.set k { fs.getD k default with down:=(put m (fs.getD k default).down p.at_ p.text out).2.1 }).map Flw.row),.arr 47 10 (u.convs.map Conv.row),.arr 70 7 (u.nets.map Pk.row)])
theorem goesW_no_down {u:M.World} {m:List Pair} {fs:List Flw} {k:Nat} {p:Pk} {out:Bool} {f:Flw} {m':List Pair} {s':Strm} (hf:fs.getD k default=f) (hP:put m f.down p.at_ p.text out=(m',s',false)) :
 goesW_down u m fs k p out (.tup [.agg (Pk.row .zero),.bool false]) [.var 41 [.own 2 u.convs.length,.sl 3 (m.map Pair.row),.own 1 fs.length,.own 3 u.nets.length],.arr 181 8 (fs.map Flw.row),.arr 47 10 (u.convs.map Conv.row),.arr 70 7 (u.nets.map Pk.row)]:=by
 unfold goesW_down
 rw[hf,hP]
 exact Or.inl ⟨rfl,rfl,rfl⟩
theorem goesW_yes_down {u:M.World} {m:List Pair} {fs:List Flw} {k:Nat} {p:Pk} {out:Bool} {f:Flw} {m':List Pair} {s':Strm} (hf:fs.getD k default=f) (hP:put m f.down p.at_ p.text out=(m',s',true)) :
 goesW_down u m fs k p out (.tup [.agg (Pk.row (goesR f.down s' p).1),.bool (goesR f.down s' p).2]) [.var 41 [.own 2 u.convs.length,.sl 3 (m'.map Pair.row),.own 1 fs.length,.own 3 u.nets.length],.arr 181 8 ((fs.set k { f with down:=s' }).map Flw.row),.arr 47 10 (u.convs.map Conv.row),.arr 70 7 (u.nets.map Pk.row)]:=by
 unfold goesW_down
 rw[hf,hP]
 exact Or.inr ⟨rfl,rfl,rfl⟩
theorem w183down (u:M.World) (m:List Pair) (fs:List Flw) (k:Nat) (p:Pk) (out:Bool) (hm:mapOk m=true) (hk:k<fs.length) (hs:strmOk (fs.getD k default).down=true) (hp:PkP p) (htx:txOk p.text=true) :
 FnP Tryz.prog G 183 4 [.var 41 [.own 2 u.convs.length,.sl 3 (m.map Pair.row),.own 1 fs.length,.own 3 u.nets.length],.arr 181 8 (fs.map Flw.row),.arr 47 10 (u.convs.map Conv.row),.arr 70 7 (u.nets.map Pk.row)] [.pv 0 1,.pa 1 k 6,.agg [.int .i64 p.kind,.int .i64 p.frm.a,.int .i64 p.frm.p,.int .i64 p.to.a,.int .i64 p.to.p,.int .i64 p.at_,.str p.text],.bool out] (goesW_down u m fs k p out):=by
 refine mP dg183 Tryz.ntmps183 ?_ ?_
 ·cases hb:(put m (fs.getD k default).down p.at_ p.text out).2.2
  ·exact⟨_,_,.inl ⟨hb,rfl,rfl⟩⟩
  ·exact⟨_,_,.inr ⟨hb,rfl,rfl⟩⟩
 have hpa:=hp.at_
 have hpl:=hp.len
 have hpk:=put_ok (m:=m) (s:=(fs.getD k default).down) (n:=p.at_) (t:=p.text) (out:=out) hm hs htx hpa.1
 have sb:=strmOk_B hs
 obtain⟨s1,s2,s3⟩:=sb
 have f0:=c203 m (fs.getD k default).down p.at_ p.text out ⟨hm,hs,hpa,hpl⟩
 have gs:∀R,((fs.map Flw.row).set k R).getD k []=R:=fun R=>by simp[List.getD,hk]
 generalize hf:fs.getD k default=f at *
 simp only[ic183,go_sem,getD_mp hk,hf]
 with_reducible repeat' (first|refine br ?_ ?_<;>intro h e<;>(try simp only[e,go_sem,getD_mp hk,hf])<;>clear e|rw[i64w (by omega)]|refine sd ?_<;>try simp only[go_sem,getD_mp hk,hf]|fail)
 refine callR f0 rfl rfl ?_
 have hml:=(mapOk_ports hpk.1).2
 have sb:=strmOk_B hpk.2
 have so:=sOut_len sb
 have gr:∀a b,forP (put m f.down p.at_ p.text out).2.1.parts p.at_=a→toR f.down (put m f.down p.at_ p.text out).2.1 p=b→goesR f.down (put m f.down p.at_ p.text out).2.1 p=({ p with at_:=a,text:=((sOut (put m f.down p.at_ p.text out).2.1).take (max b a).toNat).drop a.toNat },within (((sOut (put m f.down p.at_ p.text out).2.1).take (max b a).toNat).drop a.toNat).length 1 40):=fun a b ha hb=>by subst ha;subst hb;rfl
 have hto:toR f.down (put m f.down p.at_ p.text out).2.1 p=if f.down.inn.length<(put m f.down p.at_ p.text out).2.1.inn.length then((sOut (put m f.down p.at_ p.text out).2.1).length:Int) else forP (put m f.down p.at_ p.text out).2.1.parts (min (p.at_+p.text.length) (put m f.down p.at_ p.text out).2.1.inn.length):=rfl
 have fo1:0≤forP (put m f.down p.at_ p.text out).2.1.parts p.at_∧forP (put m f.down p.at_ p.text out).2.1.parts p.at_≤(sOut (put m f.down p.at_ p.text out).2.1).length:=forP_le _
 have fo2:0≤forP (put m f.down p.at_ p.text out).2.1.parts (min (p.at_+p.text.length) f.down.inn.length)∧forP (put m f.down p.at_ p.text out).2.1.parts (min (p.at_+p.text.length) f.down.inn.length)≤(sOut (put m f.down p.at_ p.text out).2.1).length:=forP_le _
 have hinn:f.down.inn.length≤(put m f.down p.at_ p.text out).2.1.inn.length:=put_inn ..
 generalize hP:put m f.down p.at_ p.text out=P at *
 obtain⟨m',s',ok⟩:=P
 simp only at hpk hml sb so gr hto fo1 fo2 hinn
 cases ok<;>simp only[go_sem]
 ·with_reducible repeat' (first|refine br ?_ ?_<;>intro h e<;>(try simp only[e,go_sem])<;>clear e|rw[i64w (by omega)]|refine sd ?_<;>try simp only[go_sem]|fail)
  refine retN (.tup [.agg (Pk.row .zero),.bool false]) [.var 41 [.own 2 u.convs.length,.sl 3 (m.map Pair.row),.own 1 fs.length,.own 3 u.nets.length],.arr 181 8 (fs.map Flw.row),.arr 47 10 (u.convs.map Conv.row),.arr 70 7 (u.nets.map Pk.row)] [] ?_ (goesW_no_down hf hP) ?_ (by simp[argH,getN]) (by simp only[go_sem])
  ·simp only[go_sem,Pk.zero,E.zero]
  ·simp only[go_sem]
 have f1:=r199 (m'.map Pair.row) (by simp;omega)
 have f2:=c201 s' sb
 have f3:=c204 s' p.at_ sb (by omega)
 have f4:=c204 s' (min (p.at_+p.text.length) f.down.inn.length) sb (by omega)
 generalize hA:forP s'.parts p.at_=A at *
 generalize hB:forP s'.parts (min (p.at_+p.text.length) f.down.inn.length)=Bb at *
 with_reducible repeat' (first|refine br ?_ ?_<;>intro h e<;>(try simp only[e,go_sem,getD_mp hk,hf,gs])<;>clear e|rw[i64w (by omega)]|refine sd ?_<;>try simp only[go_sem,getD_mp hk,hf,gs]|(first|refine cr (f1 ..) ?_|refine cr (f2 ..) ?_|refine cr (f3 ..) ?_|refine cr (f4 ..) ?_|refine cr (c76 ..) ?_)<;>try simp only[go_sem,getD_mp hk,hf,gs]|fail)
 ·have hto':toR f.down s' p=Bb:=by rw[hto,if_neg (by omega),←hB];congr 2
  have g:=gr A _ rfl hto'
  refine retN (.tup [.agg (Pk.row (goesR f.down s' p).1),.bool (goesR f.down s' p).2]) [.var 41 [.own 2 u.convs.length,.sl 3 (m'.map Pair.row),.own 1 fs.length,.own 3 u.nets.length],.arr 181 8 ((fs.set k { f with down:=s' }).map Flw.row),.arr 47 10 (u.convs.map Conv.row),.arr 70 7 (u.nets.map Pk.row)] [] ?_ (goesW_yes_down hf hP) ?_ (by simp[argH,getN]) (by simp only[go_sem])
  ·simp only[g,go_sem]
  ·simp only[go_sem,List.map_set]
 ·have hto':toR f.down s' p=((sOut s').length:Int):=by rw[hto,if_pos (by omega)]
  have g:=gr A _ rfl hto'
  refine retN (.tup [.agg (Pk.row (goesR f.down s' p).1),.bool (goesR f.down s' p).2]) [.var 41 [.own 2 u.convs.length,.sl 3 (m'.map Pair.row),.own 1 fs.length,.own 3 u.nets.length],.arr 181 8 ((fs.set k { f with down:=s' }).map Flw.row),.arr 47 10 (u.convs.map Conv.row),.arr 70 7 (u.nets.map Pk.row)] [] ?_ (goesW_yes_down hf hP) ?_ (by simp[argH,getN]) (by simp only[go_sem])
  ·simp only[g,go_sem]
  ·simp only[go_sem,List.map_set]
def outW (u:M.World) (x:Door×Option Pk) (r:V) (o:List Hs):Prop :=
 ∃q,r=.tup [.agg (Pk.row q),.bool x.2.isSome]∧(∀q',x.2=some q'→q=q')∧o=[.var 41 [.own 2 u.convs.length,.sl 3 (x.1.map.map Pair.row),.own 1 x.1.flows.length,.own 3 u.nets.length],.arr 181 8 (x.1.flows.map Flw.row),.arr 47 10 (u.convs.map Conv.row),.arr 70 7 (u.nets.map Pk.row)]
theorem outW_no {u:M.World} {d:Door}:outW u (d,none) (.tup [.agg (Pk.row .zero),.bool false]) [.var 41 [.own 2 u.convs.length,.sl 3 (d.map.map Pair.row),.own 1 d.flows.length,.own 3 u.nets.length],.arr 181 8 (d.flows.map Flw.row),.arr 47 10 (u.convs.map Conv.row),.arr 70 7 (u.nets.map Pk.row)]:=⟨.zero,rfl,fun q h=>(by simp at h),rfl⟩
theorem outW_if {u:M.World} (d:Door) (q:Pk) (ok:Bool):outW u (d,if ok=true then some q else none) (.tup [.agg (Pk.row q),.bool ok]) [.var 41 [.own 2 u.convs.length,.sl 3 (d.map.map Pair.row),.own 1 d.flows.length,.own 3 u.nets.length],.arr 181 8 (d.flows.map Flw.row),.arr 47 10 (u.convs.map Conv.row),.arr 70 7 (u.nets.map Pk.row)] :=
 ⟨q,by cases ok<;>rfl,fun q' h=>by cases ok<;>simp at h;exact h,rfl⟩
theorem w156 (u:M.World) (d:Door) (p:Pk) (hd:doorOk d=true) (hp:PkP p):FnP Tryz.prog G 156 1 [.var 41 [.own 2 u.convs.length,.sl 3 (d.map.map Pair.row),.own 1 d.flows.length,.own 3 u.nets.length],.arr 181 8 (d.flows.map Flw.row),.arr 47 10 (u.convs.map Conv.row),.arr 70 7 (u.nets.map Pk.row)]
 [.pv 0 1,.agg [.int .i64 p.kind,.int .i64 p.frm.a,.int .i64 p.frm.p,.int .i64 p.to.a,.int .i64 p.to.p,.int .i64 p.at_,.str p.text]] (outW u (dIn d p)):=by
 refine mP dg156 Tryz.ntmps156 ?_ ?_
 ·exact⟨_,_,(dIn d p).2.getD .zero,rfl,fun q' h=>by rw[h];rfl,rfl⟩
 obtain⟨hm,hfl,_⟩:=doorOk_iff.1 hd
 obtain⟨hmp,hml⟩:=mapOk_ports hm
 have no:∀l mm,dIn d p=(d,none)→getL l 4=.pv 1004 0→getL l 5=.bool false→getH mm 1004=.var 70 (Pk.row .zero)→getH mm 0=.var 41 [.own 2 u.convs.length,.sl 3 (d.map.map Pair.row),.own 1 d.flows.length,.own 3 u.nets.length]→getH mm 1=.arr 181 8 (d.flows.map Flw.row)→getH mm 2=.arr 47 10 (u.convs.map Conv.row)→getH mm 3=.arr 70 7 (u.nets.map Pk.row) →
  retQ [.cell 4 7 true,.t 5] 1 (outW u (dIn d p)) .ret ⟨getL l,getH mm⟩:=fun l mm hx h1 h2 h3 h4 h5 h6 h7=>by
  rw[hx]
  refine retN _ _ [] ?_ outW_no ?_ (by simp[argH,getN]) (by simp only[go_sem])
  ·simp only[go_sem,h1,h2,h3]
  ·simp only[go_sem,h4,h5,h6,h7]
 simp only[ic156,go_sem]
 have f0:=c184 d.map p.to.p (by omega)
 with_reducible repeat' (first|refine br ?_ ?_<;>intro h e<;>(try simp only[e,go_sem])<;>clear e|rw[i64w (by omega)]|refine sd ?_<;>try simp only[go_sem]|(first|refine cr (f0 ..) ?_)<;>try simp only[go_sem]|fail)
 cases hin:insideOf d.map p.to.p with
 | none =>
   simp only[go_sem,Option.isSome_none,Option.getD_none,E.zero]
   with_reducible repeat' (first|refine br ?_ ?_<;>intro h e<;>(try simp only[e,go_sem])<;>clear e|rw[i64w (by omega)]|refine sd ?_<;>try simp only[go_sem]|fail)
   refine callF (c180 (d.map.map Pair.row) d.flows ⟨0,0⟩ p.frm (by omega)) [1] false (by simp only[go_sem];first|done|simp[E.row,Pc.row,Pair.row,Part.row,Flw.row,Pk.row,Conv.row]) (by simp only[List.mem_singleton];rintro c rfl;rfl) rfl (.inr rfl) ?_
   simp only[go_sem]
   with_reducible repeat' (first|refine br ?_ ?_<;>intro h e<;>(try simp only[e,go_sem])<;>clear e|rw[i64w (by omega)]|refine sd ?_<;>try simp only[go_sem]|fail)
   exact no _ _ (dIn_no1 hin) (by simp only[go_sem]) (by simp only[go_sem]) (by simp only[go_sem,Pk.zero,E.zero]) (by simp only[go_sem]) (by simp only[go_sem]) (by simp only[go_sem]) (by simp only[go_sem])
 | some i =>
   simp only[go_sem,Option.isSome_some,Option.getD_some]
   with_reducible repeat' (first|refine br ?_ ?_<;>intro h e<;>(try simp only[e,go_sem])<;>clear e|rw[i64w (by omega)]|refine sd ?_<;>try simp only[go_sem]|fail)
   refine callF (c180 (d.map.map Pair.row) d.flows i p.frm (by omega)) [1] false (by simp only[go_sem];first|done|simp[E.row,Pc.row,Pair.row,Part.row,Flw.row,Pk.row,Conv.row]) (by simp only[List.mem_singleton];rintro c rfl;rfl) rfl (.inr rfl) ?_
   simp only[go_sem]
   cases hf:flowIx d.flows i p.frm with
   | none =>
     simp only[ixI,go_sem]
     with_reducible repeat' (first|refine br ?_ ?_<;>intro h e<;>(try simp only[e,go_sem])<;>clear e|rw[i64w (by omega)]|refine sd ?_<;>try simp only[go_sem]|fail)
     exact no _ _ (dIn_no2 hin hf) (by simp only[go_sem]) (by simp only[go_sem]) (by simp only[go_sem,Pk.zero,E.zero]) (by simp only[go_sem]) (by simp only[go_sem]) (by simp only[go_sem]) (by simp only[go_sem])
   | some k =>
     obtain⟨hk,hke⟩:=dIn_yes hin hf
     rw[hke]
     have hg:d.flows.getD k default=Flw.at d k:=rfl
     have hfk:d.flows[k]?=some (Flw.at d k):=by simp[Flw.at,List.getD,hk]
     obtain⟨_,_,x6,x7,_⟩:=flow_at hd hfk
     have s1:=strmOk_B x6
     have hpa:=hp.at_
     have hpl:=hp.len
     have f1:=c182 (Flw.at d k).up { p with to:=i } s1 (by simp only;omega)
     have hlt:¬((k:Int)<0):=by omega
     simp only[ixI,go_sem,eq_false hlt]
     with_reducible repeat' (first|refine br ?_ ?_<;>intro h e<;>(try simp only[e,go_sem,getD_mp hk,hg])<;>clear e|rw[i64w (by omega)]|refine sd ?_<;>try simp only[go_sem,getD_mp hk,hg]|(first|refine cr (f1 ..) ?_)<;>try simp only[go_sem,getD_mp hk,hg]|fail)
     ·have hx:∀b,(acksR (Flw.at d k).up { p with to:=i }).2=b→inK d k i p=(d,if b then some (acksR (Flw.at d k).up { p with to:=i }).1 else none):=fun b hb=>by
       subst hb
       have hk2:p.kind=2:=by assumption
       simp only[inK,acksR]
       rw[if_pos hk2]
       by_cases hc:p.at_>((sOut (Flw.at d k).up).length:Int)
       ·rw[if_pos hc,if_pos hc];rfl
       ·rw[if_neg hc,if_neg hc,hp.ack hk2,hk2];rfl
      generalize hA:acksR (Flw.at d k).up { p with to:=i }=A at *
      obtain⟨q,ok⟩:=A
      have hx:=hx _ rfl
      simp only at hx
      rw[hx]
      refine retN (.tup [.agg (Pk.row q),.bool ok]) [.var 41 [.own 2 u.convs.length,.sl 3 (d.map.map Pair.row),.own 1 d.flows.length,.own 3 u.nets.length],.arr 181 8 (d.flows.map Flw.row),.arr 47 10 (u.convs.map Conv.row),.arr 70 7 (u.nets.map Pk.row)] [] ?_ ⟨q,by cases ok<;>rfl,fun q' h=>by cases ok<;>simp at h;exact h,rfl⟩ ?_ (by simp[argH,getN]) (by simp only[go_sem])
      ·simp only[go_sem]
      ·simp only[go_sem]
     have hk2:¬p.kind=2:=by assumption
     have htx:=hp.tx.resolve_left hk2
     refine callN (w183down u d.map d.flows k { p with to:=i } false hm hk x7 ⟨hp.at_,hp.len,hp.tx,hp.ack,hp.kd⟩ htx) [0,1,2,3] [] true 60 4 (by simp only[go_sem];first|done|simp) (by simp only[go_sem];first|done|simp) (by simp) (by simp) (by simp) ?_ ?_ ?_
     ·rintro res out (⟨_,rfl,rfl⟩|⟨_,rfl,rfl⟩)
      ·exact⟨by simp,by simp,.inl rfl,fun i hi=>by rcases(show i=0∨i=1∨i=2∨i=3 by omega) with rfl|rfl|rfl|rfl<;>simp[chH,stepOk]⟩
      ·exact⟨by simp,by simp,.inl rfl,fun i hi=>by rcases(show i=0∨i=1∨i=2∨i=3 by omega) with rfl|rfl|rfl|rfl<;>simp[chH,stepOk]⟩
     ·intro i hi
      rcases(show i=0∨i=1∨i=2∨i=3 by omega) with rfl|rfl|rfl|rfl<;>simp only[go_sem]
     have hko:inK d k i p=if(put d.map (Flw.at d k).down p.at_ p.text false).2.2=false then(d,none)
      else(⟨d.map,d.flows.set k { Flw.at d k with down:=(put d.map (Flw.at d k).down p.at_ p.text false).2.1 }⟩,
       sendOn (Flw.at d k).down (put d.map (Flw.at d k).down p.at_ p.text false).2.1 { p with to:=i }):=by
      simp only[inK];rw[if_neg hk2,sendOn_to _ _ p i]
     have hpm:=put_mapF d.map (Flw.at d k).down p.at_ p.text
     rintro res out (⟨h,rfl,rfl⟩|⟨h,rfl,rfl⟩)
     all_goals
      simp only[hg] at h ⊢
      generalize hP:put d.map (Flw.at d k).down p.at_ p.text false=P at *
      obtain⟨m',s',ok'⟩:=P
      simp only at h hko hpm
      subst h
      subst hpm
      simp only[go_sem]
     ·rw[if_pos rfl] at hko
      rw[hko]
      with_reducible repeat' (first|refine br ?_ ?_<;>intro h e<;>(try simp only[e,go_sem])<;>clear e|rw[i64w (by omega)]|refine sd ?_<;>try simp only[go_sem]|fail)
      refine retN _ _ [] ?_ outW_no ?_ (by simp[argH,getN]) (by simp only[go_sem])
      ·simp only[go_sem]
      ·simp only[go_sem]
     ·rw[if_neg (by simp),goesR_on] at hko
      rw[hko]
      with_reducible repeat' (first|refine br ?_ ?_<;>intro h e<;>(try simp only[e,go_sem])<;>clear e|rw[i64w (by omega)]|refine sd ?_<;>try simp only[go_sem]|fail)
      refine retN _ _ [] ?_ (outW_if ⟨d.map,d.flows.set k { Flw.at d k with down:=s' }⟩ _ _) ?_ (by simp[argH,getN]) (by simp only[go_sem])
      ·simp only[go_sem]
      ·simp only[go_sem,List.map_set,List.length_set]
def outX (u:M.World) (x:Door×Option Pk) (r:V) (o:List Hs):Prop:=∃o',outW u x r o'∧∀c,HsW (chH o c) (chH o' c)
theorem outX_of {u:M.World} {x:Door×Option Pk} {r:V} {o:List Hs} (h:outW u x r o):outX u x r o:=⟨o,h,fun c=>HsW.refl _⟩
theorem hsNewW (u:M.World) (M:List Pair) (fs:List Flw) (i o:E):∀c,HsW (chH [.var 41 [.own 2 u.convs.length,.sl 3 (M.map Pair.row),.own 1 (fs++[Flw.mk i o .zero .zero]).length,.own 3 u.nets.length],.arr 181 8 (fs.map Flw.row++[[.int .i64 i.a,.int .i64 i.p,.int .i64 o.a,.int .i64 o.p,.str [],.nils,.str [],.nils]]),.arr 47 10 (u.convs.map Conv.row),.arr 70 7 (u.nets.map Pk.row)] c)
 (chH [.var 41 [.own 2 u.convs.length,.sl 3 (M.map Pair.row),.own 1 (fs++[Flw.mk i o .zero .zero]).length,.own 3 u.nets.length],.arr 181 8 ((fs++[Flw.mk i o .zero .zero]).map Flw.row),.arr 47 10 (u.convs.map Conv.row),.arr 70 7 (u.nets.map Pk.row)] c)
 | 0=>rfl
 | 1=>⟨rfl,rfl,rowsNew fs i o⟩
 | 2=>HsW.refl _
 | 3=>HsW.refl _
 | n+4=>rfl
theorem w155 (u:M.World) (d:Door) (p:Pk) (hd:doorOk d=true) (hp:PkP p) (hi:p.frm.inside=true) (ho:p.to.outside=true):FnP Tryz.prog G 155 1 [.var 41 [.own 2 u.convs.length,.sl 3 (d.map.map Pair.row),.own 1 d.flows.length,.own 3 u.nets.length],.arr 181 8 (d.flows.map Flw.row),.arr 47 10 (u.convs.map Conv.row),.arr 70 7 (u.nets.map Pk.row)]
 [.pv 0 1,.agg [.int .i64 p.kind,.int .i64 p.frm.a,.int .i64 p.frm.p,.int .i64 p.to.a,.int .i64 p.to.p,.int .i64 p.at_,.str p.text]] (outW u (dOut d p)):=by
 refine FnP.rowsOut (post:=outX u (dOut d p)) ?_ fun r o h=>h
 refine mP dg155 Tryz.ntmps155 ?_ ?_
 ·exact⟨_,_,outX_of ⟨(dOut d p).2.getD .zero,rfl,fun q' h=>by rw[h];rfl,rfl⟩⟩
 obtain⟨hm,hfl,_⟩:=doorOk_iff.1 hd
 obtain⟨hmp,hml⟩:=mapOk_ports hm
 have hyes:=fun ok=>openR_ok hd hi ho ok
 have hout:=fun ok=>dOut_yes (p:=p) ok (hyes ok).kl
 have hno:=fun ok=>dOut_no (d:=d) (p:=p) ok
 simp only[ic155,go_sem]
 with_reducible repeat' (first|refine br ?_ ?_<;>intro h e<;>(try simp only[e,go_sem])<;>clear e|rw[i64w (by omega)]|refine sd ?_<;>try simp only[go_sem]|fail)
 refine callF (c180 (d.map.map Pair.row) d.flows p.frm p.to (by omega)) [1] false (by simp only[go_sem];first|done|simp[E.row,Pc.row,Pair.row,Part.row,Flw.row,Pk.row,Conv.row]) (by simp only[List.mem_singleton];rintro c rfl;rfl) rfl (.inr rfl) ?_
 simp only[go_sem]
 cases hf:flowIx d.flows p.frm p.to with
 | some k =>
   have hop:=openF_has hf
   rw[hop] at hyes hout hno
   have hlt:¬((k:Int)<0):=by omega
   simp only[ixI,go_sem,eq_false hlt]
   obtain⟨x1,x2,x3,x4,x5,x6,x7,x8⟩:=hyes rfl
   have hout:=hout rfl
   simp only at x1 x2 x3 x4 x5 x6 x7 x8 hout
   rw[hout]
   have hg:d.flows.getD k default=Flw.at d k:=rfl
   rw[hg] at x6 x7
   have s2:=strmOk_B x7
   have hpa:=hp.at_
   have hpl:=hp.len
   have f0:=c125 d.map p.frm.a p.frm.p (by omega)
   have f1:=c182 (Flw.at d k).down { p with frm:=⟨9,portOf d.map p.frm⟩ } s2 (by simp only;omega)
   with_reducible repeat' (first|refine br ?_ ?_<;>intro h e<;>(try simp only[e,go_sem,getD_mp x4,hg])<;>clear e|rw[i64w (by omega)]|refine sd ?_<;>try simp only[go_sem,getD_mp x4,hg]|(first|refine cr (f0 ..) ?_|refine cr (f1 ..) ?_)<;>try simp only[go_sem,getD_mp x4,hg]|fail)
   ·have hx:∀b,(acksR (Flw.at d k).down { p with frm:=⟨9,portOf d.map p.frm⟩ }).2=b→outK d k p=(d,if b then some (acksR (Flw.at d k).down { p with frm:=⟨9,portOf d.map p.frm⟩ }).1 else none):=fun b hb=>by
     subst hb
     have hk2:p.kind=2:=by assumption
     simp only[outK,acksR]
     rw[if_pos hk2]
     by_cases hc:p.at_>((sOut (Flw.at d k).down).length:Int)
     ·rw[if_pos hc,if_pos hc];rfl
     ·rw[if_neg hc,if_neg hc,hp.ack hk2,hk2];rfl
    generalize hA:acksR (Flw.at d k).down { p with frm:=⟨9,portOf d.map p.frm⟩ }=A at *
    obtain⟨q,ok⟩:=A
    have hx:=hx _ rfl
    simp only at hx
    rw[hx]
    refine retN _ _ [] ?_ (outX_of (outW_if d q ok)) ?_ (by simp[argH,getN]) (by simp only[go_sem])
    ·simp only[go_sem]
    ·simp only[go_sem]
   have hk2:¬p.kind=2:=by assumption
   have htx:=hp.tx.resolve_left hk2
   refine callN (w183up u d.map d.flows k { p with frm:=⟨9,portOf d.map p.frm⟩ } true hm x4 x6 ⟨hp.at_,hp.len,hp.tx,hp.ack,hp.kd⟩ htx) [0,1,2,3] [] true 98 4 (by simp only[go_sem];first|done|simp) (by simp only[go_sem];first|done|simp) (by simp) (by simp) (by simp) ?_ ?_ ?_
   ·rintro res out (⟨_,rfl,rfl⟩|⟨_,rfl,rfl⟩)
    ·exact⟨by simp,by simp,.inl rfl,fun i hi=>by rcases(show i=0∨i=1∨i=2∨i=3 by omega) with rfl|rfl|rfl|rfl<;>simp[chH,stepOk]⟩
    ·exact⟨by simp,by simp,.inl rfl,fun i hi=>by rcases(show i=0∨i=1∨i=2∨i=3 by omega) with rfl|rfl|rfl|rfl<;>simp[chH,stepOk]⟩
   ·intro i hi
    rcases(show i=0∨i=1∨i=2∨i=3 by omega) with rfl|rfl|rfl|rfl<;>simp only[go_sem]
   have hko:outK d k p=if(put d.map (Flw.at d k).up p.at_ p.text true).2.2=false then(d,none)
    else(⟨(put d.map (Flw.at d k).up p.at_ p.text true).1,d.flows.set k { Flw.at d k with up:=(put d.map (Flw.at d k).up p.at_ p.text true).2.1 }⟩,
     sendOn (Flw.at d k).up (put d.map (Flw.at d k).up p.at_ p.text true).2.1 { p with frm:=⟨9,portOf d.map p.frm⟩ }):=by
    simp only[outK];rw[if_neg hk2,sendOn_frm _ _ p ⟨9,portOf d.map p.frm⟩]
   rintro res out (⟨h,rfl,rfl⟩|⟨h,rfl,rfl⟩)
   all_goals
    simp only[hg] at h ⊢
    generalize hP:put d.map (Flw.at d k).up p.at_ p.text true=P at *
    obtain⟨m',s',ok'⟩:=P
    simp only at h hko
    subst h
    simp only[go_sem]
   ·rw[if_pos rfl] at hko
    rw[hko]
    with_reducible repeat' (first|refine br ?_ ?_<;>intro h e<;>(try simp only[e,go_sem])<;>clear e|rw[i64w (by omega)]|refine sd ?_<;>try simp only[go_sem]|fail)
    refine retN _ _ [] ?_ (outX_of outW_no) ?_ (by simp[argH,getN]) (by simp only[go_sem])
    ·simp only[go_sem]
    ·simp only[go_sem]
   ·rw[if_neg (by simp),goesR_on] at hko
    rw[hko]
    with_reducible repeat' (first|refine br ?_ ?_<;>intro h e<;>(try simp only[e,go_sem])<;>clear e|rw[i64w (by omega)]|refine sd ?_<;>try simp only[go_sem]|fail)
    refine retN _ _ [] ?_ (outX_of (outW_if ⟨m',d.flows.set k { Flw.at d k with up:=s' }⟩ _ _)) ?_ (by simp[argH,getN]) (by simp only[go_sem])
    ·simp only[go_sem]
    ·simp only[go_sem,List.map_set,List.length_set]
 | none =>
   simp only[ixI,go_sem]
   with_reducible repeat' (first|refine br ?_ ?_<;>intro h e<;>(try simp only[e,go_sem])<;>clear e|rw[i64w (by omega)]|refine sd ?_<;>try simp only[go_sem]|fail)
   have f9:=c181 d.map p.frm.a p.frm.p hmp (by omega)
   have no:∀l mm,dOut d p=(d,none)→getL l 4=.pv 1004 0→getL l 5=.bool false→getH mm 1004=.var 70 (Pk.row .zero)→getH mm 0=.var 41 [.own 2 u.convs.length,.sl 3 (d.map.map Pair.row),.own 1 d.flows.length,.own 3 u.nets.length]→getH mm 1=.arr 181 8 (d.flows.map Flw.row)→getH mm 2=.arr 47 10 (u.convs.map Conv.row)→getH mm 3=.arr 70 7 (u.nets.map Pk.row) →
    retQ [.cell 4 7 true,.t 5] 1 (outX u (dOut d p)) .ret ⟨getL l,getH mm⟩:=fun l mm hx h1 h2 h3 h4 h5 h6 h7=>by
    rw[hx]
    refine retN _ _ [] ?_ (outX_of outW_no) ?_ (by simp[argH,getN]) (by simp only[go_sem])
    ·simp only[go_sem,h1,h2,h3]
    ·simp only[go_sem,h4,h5,h6,h7]
   refine callR f9 rfl rfl ?_
   simp only[go_sem]
   cases hok:(mOut d.map p.frm).2.2 with
   | false =>
     rw[openF_no hf hok] at hno
     simp only[go_sem]
     with_reducible repeat' (first|refine br ?_ ?_<;>intro h e<;>(try simp only[e,go_sem])<;>clear e|rw[i64w (by omega)]|refine sd ?_<;>try simp only[go_sem]|fail)
     exact no _ _ (hno rfl) (by simp only[go_sem]) (by simp only[go_sem]) (by simp only[go_sem,Pk.zero,E.zero]) (by simp only[go_sem]) (by simp only[go_sem]) (by simp only[go_sem]) (by simp only[go_sem])
   | true =>
     simp only[go_sem]
     with_reducible repeat' (first|refine br ?_ ?_<;>intro h e<;>(try simp only[e,go_sem])<;>clear e|rw[i64w (by omega)]|refine sd ?_<;>try simp only[go_sem]|fail)
     ·rw[openF_full hf (by omega)] at hno
      exact no _ _ (hno rfl) (by simp only[go_sem]) (by simp only[go_sem]) (by simp only[go_sem,Pk.zero,E.zero]) (by simp only[go_sem]) (by simp only[go_sem]) (by simp only[go_sem]) (by simp only[go_sem])
     rw[openF_new hf hok (by omega)] at hyes hout
     obtain⟨x1,x2,x3,x4,x5,x6,x7,x8⟩:=hyes rfl
     have hout:=hout rfl
     simp only at x1 x2 x3 x4 x5 x6 x7 x8 hout
     rw[hout]
     have hm2:=(mapOk_ports x1).2
     have hpa:=hp.at_
     have hpl:=hp.len
     have hg:Flw.at ⟨(mOut d.map p.frm).1,d.flows++[Flw.mk p.frm p.to .zero .zero]⟩ d.flows.length=Flw.mk p.frm p.to .zero .zero:=by simp[Flw.at,List.getD]
     have hx:∀R:List V,((d.flows.map Flw.row)++[R]).getD d.flows.length []=R:=fun R=>getD_last _ _ (by simp) _
     have f0:=c125 (mOut d.map p.frm).1 p.frm.a p.frm.p (by omega)
     generalize hM:(mOut d.map p.frm).1=M at *
     with_reducible repeat' (first|refine br ?_ ?_<;>intro h e<;>(try simp only[e,go_sem,hx])<;>clear e|rw[i64w (by omega)]|refine sd ?_<;>try simp only[go_sem,hx]|(first|refine cr (f0 ..) ?_)<;>try simp only[go_sem,hx]|fail)
     all_goals
      refine effG (by simp only[zA,List.length_map,zC,zN];omega) ?_
      simp only[go_sem,hx]
      with_reducible repeat' (first|refine br ?_ ?_<;>intro h e<;>(try simp only[e,go_sem,hx])<;>clear e|rw[i64w (by omega)]|refine sd ?_<;>try simp only[go_sem,hx]|fail)
     ·have f1:=c182 .zero { p with frm:=⟨9,portOf M p.frm⟩ } (strmOk_B strmOk_zero) (by simp only;omega)
      refine callF f1 [] true (by simp only[go_sem,Strm.zero]) (by simp) rfl (.inl rfl) ?_
      simp only[go_sem]
      with_reducible repeat' (first|refine br ?_ ?_<;>intro h e<;>(try simp only[e,go_sem,hx])<;>clear e|rw[i64w (by omega)]|refine sd ?_<;>try simp only[go_sem,hx]|fail)
      have hx2:∀b,(acksR .zero { p with frm:=⟨9,portOf M p.frm⟩ }).2=b→outK ⟨M,d.flows++[Flw.mk p.frm p.to .zero .zero]⟩ d.flows.length p=(⟨M,d.flows++[Flw.mk p.frm p.to .zero .zero]⟩,if b then some (acksR .zero { p with frm:=⟨9,portOf M p.frm⟩ }).1 else none):=fun b hb=>by
       subst hb
       have hk2:p.kind=2:=by assumption
       simp only[outK,acksR,hg]
       rw[if_pos hk2]
       by_cases hc:p.at_>((sOut .zero).length:Int)
       ·rw[if_pos hc,if_pos hc];rfl
       ·rw[if_neg hc,if_neg hc,hp.ack hk2,hk2];rfl
      generalize hA:acksR .zero { p with frm:=⟨9,portOf M p.frm⟩ }=A at *
      obtain⟨q,ok⟩:=A
      have hx2:=hx2 _ rfl
      simp only at hx2
      rw[hx2]
      refine retN _ _ [(1,1062)] ?_ ⟨_,outW_if ⟨M,d.flows++[Flw.mk p.frm p.to .zero .zero]⟩ q ok,hsNewW u M d.flows p.frm p.to⟩ ?_ (by simp[argH,getN]) (by simp only[go_sem])
      ·simp only[go_sem]
      ·simp only[go_sem];simp
     have hk2:¬p.kind=2:=by assumption
     have htx:=hp.tx.resolve_left hk2
     refine callN (FnP.rowsIn (w183up u M (d.flows++[Flw.mk p.frm p.to .zero .zero]) d.flows.length { p with frm:=⟨9,portOf M p.frm⟩ } true x1 x4 x6 ⟨hp.at_,hp.len,hp.tx,hp.ack,hp.kd⟩ htx) (hsNewW u M d.flows p.frm p.to)) [0,1062,2,3] [] true 98 4 (by simp only[go_sem];first|done|simp) (by simp only[go_sem];first|done|simp) (by simp) (by simp) (by simp) ?_ ?_ ?_
     ·rintro res out (⟨_,rfl,rfl⟩|⟨_,rfl,rfl⟩)
      ·exact⟨by simp,by simp,.inl rfl,fun i hi=>by rcases(show i=0∨i=1∨i=2∨i=3 by omega) with rfl|rfl|rfl|rfl<;>simp[chH,stepOk]⟩
      ·exact⟨by simp,by simp,.inl rfl,fun i hi=>by rcases(show i=0∨i=1∨i=2∨i=3 by omega) with rfl|rfl|rfl|rfl<;>simp[chH,stepOk]⟩
     ·intro i hi
      rcases(show i=0∨i=1∨i=2∨i=3 by omega) with rfl|rfl|rfl|rfl<;>simp only[go_sem]
     have hgd:(d.flows++[Flw.mk p.frm p.to .zero .zero]).getD d.flows.length default=Flw.mk p.frm p.to .zero .zero:=hg
     have hko:outK ⟨M,d.flows++[Flw.mk p.frm p.to .zero .zero]⟩ d.flows.length p=if(put M .zero p.at_ p.text true).2.2=false then(⟨M,d.flows++[Flw.mk p.frm p.to .zero .zero]⟩,none)
      else(⟨(put M .zero p.at_ p.text true).1,(d.flows++[Flw.mk p.frm p.to .zero .zero]).set d.flows.length { Flw.mk p.frm p.to .zero .zero with up:=(put M .zero p.at_ p.text true).2.1 }⟩,
       sendOn .zero (put M .zero p.at_ p.text true).2.1 { p with frm:=⟨9,portOf M p.frm⟩ }):=by
      simp only[outK,hg];rw[if_neg hk2,sendOn_frm _ _ p ⟨9,portOf M p.frm⟩]
     rintro res out (⟨h,rfl,rfl⟩|⟨h,rfl,rfl⟩)
     all_goals
      simp only[hgd] at h ⊢
      generalize hP:put M .zero p.at_ p.text true=P at *
      obtain⟨m',s',ok'⟩:=P
      simp only at h hko
      subst h
      simp only[go_sem]
     ·rw[if_pos rfl] at hko
      rw[hko]
      with_reducible repeat' (first|refine br ?_ ?_<;>intro h e<;>(try simp only[e,go_sem])<;>clear e|rw[i64w (by omega)]|refine sd ?_<;>try simp only[go_sem]|fail)
      refine retN _ _ [(1,1062)] ?_ (outX_of outW_no) ?_ (by simp[argH,getN]) (by simp only[go_sem])
      ·simp only[go_sem]
      ·simp only[go_sem]
     ·rw[if_neg (by simp),goesR_on] at hko
      rw[hko]
      with_reducible repeat' (first|refine br ?_ ?_<;>intro h e<;>(try simp only[e,go_sem])<;>clear e|rw[i64w (by omega)]|refine sd ?_<;>try simp only[go_sem]|fail)
      refine retN _ _ [(1,1062)] ?_ (outX_of (outW_if ⟨m',(d.flows++[Flw.mk p.frm p.to .zero .zero]).set d.flows.length { Flw.mk p.frm p.to .zero .zero with up:=s' }⟩ _ _)) ?_ (by simp[argH,getN]) (by simp only[go_sem])
      ·simp only[go_sem]
      ·simp only[go_sem,List.map_set,List.length_set]
theorem w126 (u:M.World) (d:Door) (p:Pk) (hd:doorOk d=true) (hp:PkP p):FnP Tryz.prog G 126 1 [.var 41 [.own 2 u.convs.length,.sl 3 (d.map.map Pair.row),.own 1 d.flows.length,.own 3 u.nets.length],.arr 181 8 (d.flows.map Flw.row),.arr 47 10 (u.convs.map Conv.row),.arr 70 7 (u.nets.map Pk.row)]
 [.pv 0 1,.agg [.int .i64 p.kind,.int .i64 p.frm.a,.int .i64 p.frm.p,.int .i64 p.to.a,.int .i64 p.to.p,.int .i64 p.at_,.str p.text]] (outW u (dPass d p)):=by
 refine mP dg126 Tryz.ntmps126 ?_ ?_
 ·exact⟨_,_,(dPass d p).2.getD .zero,rfl,fun q' h=>by rw[h];rfl,rfl⟩
 have b1:=c154 p
 have b2:=c84 p
 simp only[ic126,go_sem]
 with_reducible repeat' (first|refine br ?_ ?_<;>intro h e<;>(try simp only[e,go_sem])<;>clear e|rw[i64w (by omega)]|refine sd ?_<;>try simp only[go_sem]|(first|refine cr (b1 ..) ?_|refine cr (b2 ..) ?_)<;>try simp only[go_sem]|fail)
 ·have hx:dPass d p=dOut d p:=by simp_all[dPass]
  rw[hx]
  have hio:p.frm.inside=true∧p.to.outside=true:=by simp_all[Pk.outward]
  refine callN (w155 u d p hd hp hio.1 hio.2) [0,1,2,3] [] true 11 4 (by simp only[go_sem];first|done|simp) (by simp only[go_sem];first|done|simp) (by simp) (by simp) (by simp) ?_ ?_ ?_
  ·rintro res out ⟨q,rfl,hq,rfl⟩
   exact⟨by simp,by simp,.inl rfl,fun i hi=>by obtain rfl:i=0:=(by omega);simp[chH,stepOk]⟩
  ·intro i hi
   rcases(show i=0∨i=1∨i=2∨i=3 by omega) with rfl|rfl|rfl|rfl<;>simp only[go_sem]
  rintro res out ⟨q,rfl,hq,rfl⟩
  simp only[go_sem]
  refine retN _ _ [(1,101101),(2,101102),(3,101103)] ?_ ⟨q,rfl,hq,rfl⟩ ?_ (by simp[argH,getN]) (by simp only[go_sem])
  ·simp only[go_sem]
  ·simp only[go_sem]
 ·have hx:dPass d p=dIn d p:=by simp_all[dPass]
  rw[hx]
  refine callN (w156 u d p hd hp) [0,1,2,3] [] true 19 4 (by simp only[go_sem];first|done|simp) (by simp only[go_sem];first|done|simp) (by simp) (by simp) (by simp) ?_ ?_ ?_
  ·rintro res out ⟨q,rfl,hq,rfl⟩
   exact⟨by simp,by simp,.inl rfl,fun i hi=>by obtain rfl:i=0:=(by omega);simp[chH,stepOk]⟩
  ·intro i hi
   rcases(show i=0∨i=1∨i=2∨i=3 by omega) with rfl|rfl|rfl|rfl<;>simp only[go_sem]
  rintro res out ⟨q,rfl,hq,rfl⟩
  simp only[go_sem]
  refine retN _ _ [(1,101901),(2,101902),(3,101903)] ?_ ⟨q,rfl,hq,rfl⟩ ?_ (by simp[argH,getN]) (by simp only[go_sem])
  ·simp only[go_sem]
  ·simp only[go_sem]
 ·have hx:dPass d p=(d,none):=by simp_all[dPass]
  rw[hx]
  refine retN _ _ [] ?_ outW_no ?_ (by simp[argH,getN]) (by simp only[go_sem])
  ·simp only[go_sem,Pk.zero,E.zero]
  ·simp only[go_sem]
def ic66:IC:=sR [oP 2 (.mv (.c (.bool false)))] (sR [mV 3 0,oP 4 (.lens (.t 3)),oP 5 (.bin .leq (.t 4) (.c (.int .i64 24))),mV 6 5,⟨some 7,some (6,true),.mv (.t 0)⟩,⟨some 8,some (6,true),.call 112 [.t 7]⟩,oP 9 (.pick (.t 6) (.t 8) (.c (.bool false))),mV 10 9,⟨some 11,some (10,true),.mv (.t 0)⟩,⟨some 12,some (10,true),.call 113 [.t 11]⟩,⟨some 13,some (10,true),.bin .eql (.t 12) (.c i0)⟩,oP 14 (.pick (.t 10) (.t 13) (.c (.bool false))),mV 2 14] .ret)
theorem dg66:Dg Tryz.prog 66 Tryz.f66 ic66 [(.t 2)]:=⟨Tryz.func66,by kernel_rfl,by kernel_rfl⟩
theorem c66 (t:B) (hl:t.length≤2000000):FnR Tryz.prog G 66 [.str t] (.bool (saying t)):=by
 refine mF dg66 Tryz.ntmps66 ?_
 simp only[ic66,go_sem]
 have c1:=c112 t hl
 have c2:=c113 t hl
 with_reducible repeat' (first|refine br ?_ ?_<;>intro h e<;>(try simp only[e,go_sem])<;>clear e|rw[i64w (by omega)]|refine sd ?_<;>try simp only[go_sem]|(first|refine cr (c1 ..) ?_|refine cr (c2 ..) ?_)<;>try simp only[go_sem]|fail)
 all_goals simp_all[saying]
 all_goals omega
theorem findIdx_no {α:Type} {P:α→Bool} {l:List α} (h:l.any P=false):l.findIdx? P=none:=List.findIdx?_eq_none_iff.2 fun x hx=>by simpa using List.any_eq_false.1 h x hx
theorem findIdx_yes {α:Type} {P:α→Bool} {l:List α} {k:Nat} (hk:k<l.length) (h:(l.take k).any P=false) (hp:P l[k]=true):l.findIdx? P=some k:=by
 refine List.findIdx?_eq_some_iff_getElem.2 ⟨hk,hp,fun j hj=>?_⟩
 have:=List.any_eq_false.1 h l[j] (List.mem_iff_getElem?.2 ⟨j,by rw[List.getElem?_take,if_pos hj];exact zE _⟩)
 simpa using this
theorem any_step {α:Type} {P:α→Bool} {l:List α} {k:Nat} (hk:k<l.length) (h:(l.take k).any P=false) (hp:P l[k]=false):(l.take (k+1)).any P=false:=by
 rw[List.take_add_one,zE hk]
 simp only[Option.toList_some,List.any_append,h,List.any_cons,List.any_nil,Bool.or_false,Bool.false_or,hp]
theorem ixI_any {α:Type} {P:α→Bool} {l:List α}:decide (0≤ixI (l.findIdx? P))=l.any P:=by
 cases h:l.any P with
 | false=>rw[findIdx_no h];rfl
 | true =>
   obtain⟨x,hx,hp⟩:=List.any_eq_true.1 h
   cases hf:l.findIdx? P with
   | none=>have:=List.findIdx?_eq_none_iff.1 hf x hx;rw[hp] at this;cases this
   | some k=>simp[ixI]
def ic114:IC:=sR [oP 4 (.mv (.c i0))] (.seq (sR [mV 6 0,oP 7 (.len (.t 6)),oP 8 (.mv (.c i0))] (.block 0 (.loop (sR [bN 9 .lss 8 7] (.seq (.cond (.t 9) .skip (.exit 0)) (.seq (.block 1 (sR [mV 10 8,mV 5 10] (sR [mV 11 1,mV 12 0,mV 13 5,oP 14 (.iad 2 (.t 12) (.t 13)),lA 15 2 14,oP 16 (.cal (.t 11) [.t 15])] (.cond (.t 16) (sR [mV 17 5,mV 4 17] .ret) .skip)))) (.reg [oP 18 (.bin .add (.t 8) (.c (.int .i64 1))),mV 8 18]))))))) (sR [oP 4 (.mv (.c (.int .i64 (-1))))] .ret))
theorem dg114:Dg Tryz.prog 114 Tryz.f114 ic114 [(.t 4)]:=⟨Tryz.func114,by kernel_rfl,by kernel_rfl⟩
theorem c114 (l:List E) (hl:l.length≤2000000):FnR Tryz.prog G 114 [.sl 2 (l.map E.row),.fn 69 []] (.int .i64 (ixI (l.findIdx? E.door))):=by
 refine mF dg114 Tryz.ntmps114 ?_
 simp only[ic114,go_sem]
 refine loopN (fun k:Nat=>⟨getL [(0,.sl 2 (l.map E.row)),(1,.fn 69 []),(7,.int .i64 l.length),(8,.int .i64 (k:Int))],getH []⟩) (fun k=>l.length - k)
  (fun k=>k≤l.length∧(l.take k).any E.door=false) 0 (leQ []) ⟨Nat.zero_le _,by simp⟩ ?_
 intro k ⟨hk,ha⟩
 simp only[go_sem]
 by_cases h:(k:Int)<l.length
 ·have hil:k<l.length:=by omega
  have hg:l.getD k default=l[k]:=by simp[List.getD,hil]
  have hy:=findIdx_yes hil ha
  have hs:=any_step hil ha
  simp only[eq_true h,go_sem]
  with_reducible repeat' (first|refine br ?_ ?_<;>intro h e<;>(try simp only[e,go_sem,hg])<;>clear e|rw[i64w (by omega)]|refine sd ?_<;>try simp only[go_sem,hg]|(first|refine cr (c69 ..) ?_)<;>try simp only[go_sem,hg]|fail)
  ·rw[hy (by assumption)];rfl
  ·exact⟨k+1,by omega,⟨by omega,hs (by assumption)⟩,(leQ [])⟩
 ·simp only[eq_false h,go_sem]
  have:k=l.length:=by omega
  subst this
  rw[List.take_length] at ha
  rw[findIdx_no ha];rfl
def ic67:IC:=sR [oP 4 (.mv (.c (.bool false)))] (sR [mV 5 0,mV 6 1,oP 7 (.call 114 [.t 5,.t 6]),oP 8 (.bin .geq (.t 7) (.c i0)),mV 4 8] .ret)
theorem dg67:Dg Tryz.prog 67 Tryz.f67 ic67 [(.t 4)]:=⟨Tryz.func67,by kernel_rfl,by kernel_rfl⟩
theorem c67 (l:List E) (hl:l.length≤2000000):FnR Tryz.prog G 67 [.sl 2 (l.map E.row),.fn 69 []] (.bool (l.any E.door)):=by
 refine mF dg67 Tryz.ntmps67 ?_
 simp only[ic67,go_sem]
 refine callR (c114 l hl) rfl rfl ?_
 simp only[go_sem,ixI_any]
theorem names_2m {t:B} (hl:t.length≤2000000):(textNames t).length≤2000000:=by
 have h1:=textPieces_len t
 have h2:=names_le (textPieces t)
 unfold textNames;omega
def ic40:IC:=sR [oP 4 (.box 45 (.t 0)),oP 5 (.box 45 (.t 1)),oP 8 (.alloc 47 [i0,i0,i0,i0,s0,s0,i0,i0,s0,s0]),oP 9 (.mv (.c (.bool false)))] (.seq (sR [lA 10 2 4,oP 11 (.call 64 [.t 10]),oP 12 (.un .not (.t 11)),mV 13 12,⟨some 14,some (13,false),.ld 2 true (.t 5)⟩,⟨some 15,some (13,false),.call 65 [.t 14]⟩,⟨some 16,some (13,false),.un .not (.t 15)⟩,oP 17 (.pick (.t 13) (.c (.bool true)) (.t 16)),mV 18 17,⟨some 19,some (18,false),.mv (.t 2)⟩,⟨some 20,some (18,false),.call 66 [.t 19]⟩,⟨some 21,some (18,false),.un .not (.t 20)⟩,oP 22 (.pick (.t 18) (.c (.bool true)) (.t 21)),mV 23 22,⟨some 24,some (23,false),.mv (.t 3)⟩,⟨some 25,some (23,false),.call 66 [.t 24]⟩,⟨some 26,some (23,false),.un .not (.t 25)⟩,oP 27 (.pick (.t 23) (.c (.bool true)) (.t 26)),mV 28 27,⟨some 29,some (28,false),.mv (.t 2)⟩,⟨some 30,some (28,false),.call 68 [.t 29]⟩,⟨some 31,some (28,false),.call 67 [.t 30,.c (.fn 69 [])]⟩,oP 32 (.pick (.t 28) (.c (.bool true)) (.t 31))] (.cond (.t 32) (sR [oP 33 (.build [i0,i0,i0,i0,s0,s0,i0,i0,s0,s0] []),nP (.sto 10 (.t 8) (.t 33)),oP 9 (.mv (.c (.bool false)))] .ret) .skip)) (sR [lA 34 2 4,lA 35 2 5,mV 36 2,mV 37 3,oP 38 (.build [i0,i0,i0,i0,s0,s0,i0,i0,s0,s0] [(0,(2,.t 34)),(2,(2,.t 35)),(4,(1,.t 36)),(5,(1,.t 37))]),nP (.sto 10 (.t 8) (.t 38)),oP 9 (.mv (.c (.bool true)))] .ret))
theorem dg40:Dg Tryz.prog 40 Tryz.f40 ic40 [(.cell 8 10 true),(.t 9)]:=⟨Tryz.func40,by kernel_rfl,by kernel_rfl⟩
theorem c40 (i o:E) (up down:B) (h1:up.length≤2000000) (h2:down.length≤2000000):FnR Tryz.prog G 40 [.agg [.int .i64 i.a,.int .i64 i.p],.agg [.int .i64 o.a,.int .i64 o.p],.str up,.str down]
 (.tup [.agg (Conv.row ((convNew i o up down).getD .zero)),.bool (convNew i o up down).isSome]):=by
 refine mF dg40 Tryz.ntmps40 ?_
 simp only[ic40,go_sem]
 have c1:=c66 up h1
 have c2:=c66 down h2
 have c3:=c68 up h1
 have c4:=c67 (textNames up) (names_2m h1)
 have ho:ownT up=!(textNames up).any E.door:=rfl
 generalize (textNames up).any E.door=nd at *
 with_reducible repeat' (first|refine br ?_ ?_<;>intro h e<;>(try simp only[e,go_sem])<;>clear e|rw[i64w (by omega)]|refine sd ?_<;>try simp only[go_sem]|(first|refine cr (c64 ..) ?_|refine cr (c65 ..) ?_|refine cr (c1 ..) ?_|refine cr (c2 ..) ?_|refine cr (c3 ..) ?_|refine cr (c4 ..) ?_)<;>try simp only[go_sem]|fail)
 all_goals simp_all[convNew,Conv.zero,E.zero]
def ic70:IC:=sR [oP 1 (.box 47 (.t 0)),oP 2 (.mv (.c (.bool false)))] (sR [fD 6 0 1,lA 7 2 6,fD 8 2 1,lA 9 2 8,fD 10 4 1,lD 11 1 10,fD 12 5 1,lD 13 1 12,oP 14 (.call 40 [.t 7,.t 9,.t 11,.t 13]),mV 5 14,eX 15 5 0,eX 16 5 1,oP 3 (.alloc 47 [i0,i0,i0,i0,s0,s0,i0,i0,s0,s0]),nP (.sto 10 (.t 3) (.t 15)),mV 4 16] (sR [mV 17 4,mV 18 17,⟨some 19,some (18,true),.fad 6 (.t 1)⟩,⟨some 20,some (18,true),.ld 1 false (.t 19)⟩,⟨some 21,some (18,true),.fad 4 (.t 1)⟩,⟨some 22,some (18,true),.ld 1 false (.t 21)⟩,⟨some 23,some (18,true),.lens (.t 22)⟩,⟨some 24,some (18,true),.call 76 [.t 20,.c i0,.t 23]⟩,oP 25 (.pick (.t 18) (.t 24) (.c (.bool false))),mV 26 25,⟨some 27,some (26,true),.fad 7 (.t 1)⟩,⟨some 28,some (26,true),.ld 1 false (.t 27)⟩,⟨some 29,some (26,true),.fad 5 (.t 1)⟩,⟨some 30,some (26,true),.ld 1 false (.t 29)⟩,⟨some 31,some (26,true),.lens (.t 30)⟩,⟨some 32,some (26,true),.call 76 [.t 28,.c i0,.t 31]⟩,oP 33 (.pick (.t 26) (.t 32) (.c (.bool false))),mV 34 33,⟨some 35,some (34,true),.fad 8 (.t 1)⟩,⟨some 36,some (34,true),.ld 1 false (.t 35)⟩,⟨some 37,some (34,true),.call 112 [.t 36]⟩,oP 38 (.pick (.t 34) (.t 37) (.c (.bool false))),mV 39 38,⟨some 40,some (39,true),.fad 9 (.t 1)⟩,⟨some 41,some (39,true),.ld 1 false (.t 40)⟩,⟨some 42,some (39,true),.call 112 [.t 41]⟩,oP 43 (.pick (.t 39) (.t 42) (.c (.bool false))),mV 2 43] .ret))
theorem dg70:Dg Tryz.prog 70 Tryz.f70 ic70 [(.t 2)]:=⟨Tryz.func70,by kernel_rfl,by kernel_rfl⟩
theorem c70 (c:Conv) (h1:c.up.length≤2000000) (h2:c.down.length≤2000000) (h3:c.upGot.length≤2000000) (h4:c.downGot.length≤2000000):FnR Tryz.prog G 70 [.agg [.int .i64 c.ins.a,.int .i64 c.ins.p,.int .i64 c.out.a,.int .i64 c.out.p,.str c.up,.str c.down,.int .i64 c.upAck,.int .i64 c.downAck,.str c.upGot,.str c.downGot]] (.bool (convOk c)):=by
 refine mF dg70 Tryz.ntmps70 ?_
 simp only[ic70,go_sem]
 refine callR (c40 c.ins c.out c.up c.down h1 h2) rfl rfl ?_
 simp only[go_sem]
 have c1:=c112 c.upGot h3
 have c2:=c112 c.downGot h4
 with_reducible repeat' (first|refine br ?_ ?_<;>intro h e<;>(try simp only[e,go_sem])<;>clear e|rw[i64w (by omega)]|refine sd ?_<;>try simp only[go_sem]|(first|refine cr (c76 ..) ?_|refine cr (c1 ..) ?_|refine cr (c2 ..) ?_)<;>try simp only[go_sem]|fail)
 all_goals simp_all[convOk]
theorem take_drop_len {t:B} {n k:Int} (hn:0≤n) (hk:0≤k):(t.take (n+k).toNat).drop n.toNat=(t.drop n.toNat).take k.toNat:=by
 rw[List.drop_take];congr 1;omega
def sameC (c o:Conv):Bool:=decide (o.ins=c.ins)||decide (o.out=c.out)
def ic72:IC:=sR [oP 2 (.box 47 (.t 0)),oP 3 (.mv (.c (.bool false)))] (sR [fD 4 0 2,lA 5 2 4,fD 6 0 1,lA 7 2 6,oP 8 (.eqs false [.i,.i] (.t 5) (.t 7)),mV 9 8,⟨some 10,some (9,false),.fad 2 (.t 2)⟩,⟨some 11,some (9,false),.ld 2 true (.t 10)⟩,⟨some 12,some (9,false),.fad 2 (.t 1)⟩,⟨some 13,some (9,false),.ld 2 true (.t 12)⟩,⟨some 14,some (9,false),.eqs false [.i,.i] (.t 11) (.t 13)⟩,oP 15 (.pick (.t 9) (.c (.bool true)) (.t 14)),mV 3 15] .ret)
theorem dg72:Dg Tryz.prog 72 Tryz.f72 ic72 [(.t 3)]:=⟨Tryz.func72,by kernel_rfl,by kernel_rfl⟩
theorem c72 (o c:Conv):FnR Tryz.prog G 72 [.agg [.int .i64 o.ins.a,.int .i64 o.ins.p,.int .i64 o.out.a,.int .i64 o.out.p,.str o.up,.str o.down,.int .i64 o.upAck,.int .i64 o.downAck,.str o.upGot,.str o.downGot],.iptr [.int .i64 c.ins.a,.int .i64 c.ins.p,.int .i64 c.out.a,.int .i64 c.out.p,.str c.up,.str c.down,.int .i64 c.upAck,.int .i64 c.downAck,.str c.upGot,.str c.downGot] 0] (.bool (sameC c o)):=by
 refine mF dg72 Tryz.ntmps72 ?_
 simp only[ic72,go_sem,E.ext_iff']
 with_reducible repeat' (first|refine br ?_ ?_<;>intro h e<;>(try simp only[e,go_sem,E.ext_iff'])<;>clear e|rw[i64w (by omega)]|refine sd ?_<;>try simp only[go_sem,E.ext_iff']|fail)
 all_goals simp_all[sameC]
def ic117:IC:=sR [oP 4 (.mv (.c i0))] (.seq (sR [mV 6 0,oP 7 (.len (.t 6)),oP 8 (.mv (.c i0))] (.block 0 (.loop (sR [bN 9 .lss 8 7] (.seq (.cond (.t 9) .skip (.exit 0)) (.seq (.block 1 (sR [mV 10 8,mV 5 10] (sR [mV 11 1,mV 12 0,mV 13 5,oP 14 (.iad 10 (.t 12) (.t 13)),lA 15 10 14,oP 16 (.cal (.t 11) [.t 15])] (.cond (.t 16) (sR [mV 17 5,mV 4 17] .ret) .skip)))) (.reg [oP 18 (.bin .add (.t 8) (.c (.int .i64 1))),mV 8 18]))))))) (sR [oP 4 (.mv (.c (.int .i64 (-1))))] .ret))
theorem dg117:Dg Tryz.prog 117 Tryz.f117 ic117 [(.t 4)]:=⟨Tryz.func117,by kernel_rfl,by kernel_rfl⟩
theorem c117T (l:List Conv) (c:Conv) (hl:l.length≤2000000):FnR Tryz.prog G 117 [.sl 10 (l.map Conv.row),.fn 72 [.iptr [.int .i64 c.ins.a,.int .i64 c.ins.p,.int .i64 c.out.a,.int .i64 c.out.p,.str c.up,.str c.down,.int .i64 c.upAck,.int .i64 c.downAck,.str c.upGot,.str c.downGot] 0]] (.int .i64 (ixI (l.findIdx? (sameC c)))):=by
 refine mF dg117 Tryz.ntmps117 ?_
 simp only[ic117,go_sem]
 refine loopN (fun k:Nat=>⟨getL [(0,.sl 10 (l.map Conv.row)),(1,.fn 72 [.iptr [.int .i64 c.ins.a,.int .i64 c.ins.p,.int .i64 c.out.a,.int .i64 c.out.p,.str c.up,.str c.down,.int .i64 c.upAck,.int .i64 c.downAck,.str c.upGot,.str c.downGot] 0]),(7,.int .i64 l.length),(8,.int .i64 (k:Int))],getH []⟩) (fun k=>l.length - k)
  (fun k=>k≤l.length∧(l.take k).any (sameC c)=false) 0 (leQ []) ⟨Nat.zero_le _,by simp⟩ ?_
 intro k ⟨hk,ha⟩
 simp only[go_sem]
 by_cases h:(k:Int)<l.length
 ·have hil:k<l.length:=by omega
  have hg:l.getD k default=l[k]:=by simp[List.getD,hil]
  have hy:=findIdx_yes hil ha
  have hs:=any_step hil ha
  simp only[eq_true h,go_sem]
  refine effG (by omega) ?_
  simp only[hg,go_sem]
  refine callR (c72 l[k] c) rfl rfl ?_
  simp only[go_sem]
  with_reducible repeat' (first|refine br ?_ ?_<;>intro h e<;>(try simp only[e,go_sem])<;>clear e|rw[i64w (by omega)]|refine sd ?_<;>try simp only[go_sem]|fail)
  ·rw[hy (by assumption)];rfl
  ·exact⟨k+1,by omega,⟨by omega,hs (by assumption)⟩,(leQ [])⟩
 ·simp only[eq_false h,go_sem]
  have:k=l.length:=by omega
  subst this
  rw[List.take_length] at ha
  rw[findIdx_no ha];rfl
def ic71:IC:=sR [oP 4 (.mv (.c (.bool false)))] (sR [mV 5 0,mV 6 1,oP 7 (.call 117 [.t 5,.t 6]),oP 8 (.bin .geq (.t 7) (.c i0)),mV 4 8] .ret)
theorem dg71:Dg Tryz.prog 71 Tryz.f71 ic71 [(.t 4)]:=⟨Tryz.func71,by kernel_rfl,by kernel_rfl⟩
theorem c71T (l:List Conv) (c:Conv) (hl:l.length≤2000000):FnR Tryz.prog G 71 [.sl 10 (l.map Conv.row),.fn 72 [.iptr [.int .i64 c.ins.a,.int .i64 c.ins.p,.int .i64 c.out.a,.int .i64 c.out.p,.str c.up,.str c.down,.int .i64 c.upAck,.int .i64 c.downAck,.str c.upGot,.str c.downGot] 0]] (.bool (l.any (sameC c))):=by
 refine mF dg71 Tryz.ntmps71 ?_
 simp only[ic71,go_sem]
 refine callR (c117T l c hl) rfl rfl ?_
 simp only[go_sem,ixI_any]
theorem okConv_b {cs:List Conv} {k:Nat} (h:k<cs.length) (hb:okConv cs k=false):together cs=false:=by
 cases ht:together cs with
 | false=>rfl
 | true=>rw[(together_iff.1 ht).2 k h] at hb;cases hb
def ic41:IC:=sR [oP 2 (.mv (.c (.bool false)))] (.seq (sR [mV 5 0,oP 6 (.len (.t 5)),oP 7 (.mv (.c i0))] (.block 0 (.loop (sR [bN 8 .lss 7 6] (.seq (.cond (.t 8) .skip (.exit 0)) (.seq (.block 1 (sR [mV 9 7,oP 10 (.iad 10 (.t 5) (.t 7)),lA 11 10 10,oP 4 (.alloc 47 [i0,i0,i0,i0,s0,s0,i0,i0,s0,s0]),mV 3 9,nP (.sto 10 (.t 4) (.t 11))] (sR [lA 12 10 4,oP 13 (.call 70 [.t 12]),oP 14 (.un .not (.t 13)),mV 15 14,⟨some 16,some (15,false),.mv (.t 0)⟩,⟨some 17,some (15,false),.mv (.t 3)⟩,⟨some 18,some (15,false),.slv 10 (.t 16) none (some (.t 17))⟩,⟨some 19,some (15,false),.mkf 72 [.t 4]⟩,⟨some 20,some (15,false),.call 71 [.t 18,.t 19]⟩,oP 21 (.pick (.t 15) (.c (.bool true)) (.t 20))] (.cond (.t 21) (sR [oP 2 (.mv (.c (.bool false)))] .ret) .skip)))) (.reg [oP 22 (.bin .add (.t 7) (.c (.int .i64 1))),mV 7 22]))))))) (sR [mV 23 0,oP 24 (.len (.t 23)),oP 25 (.bin .leq (.t 24) (.c (.int .i64 2))),mV 2 25] .ret))
theorem dg41:Dg Tryz.prog 41 Tryz.f41 ic41 [(.t 2)]:=⟨Tryz.func41,by kernel_rfl,by kernel_rfl⟩
theorem c41 (cs:List Conv) (hl:cs.length≤2000000) (hB:∀c∈cs,(c.up.length≤2000000∧c.down.length≤2000000)∧c.upGot.length≤2000000∧c.downGot.length≤2000000):FnR Tryz.prog G 41 [.sl 10 (cs.map Conv.row)] (.bool (together cs)):=by
 refine mF dg41 Tryz.ntmps41 ?_
 simp only[ic41,go_sem]
 refine loopN (fun i:Nat=>⟨getL [(0,.sl 10 (cs.map Conv.row)),(5,.sl 10 (cs.map Conv.row)),(6,.int .i64 cs.length),(7,.int .i64 (i:Int))],getH []⟩) (fun i=>cs.length - i) (fun i=>i≤cs.length∧∀j,j<i→okConv cs j=true) 0 (leQ []) ⟨Nat.zero_le _,by omega⟩ ?_
 intro i ⟨hi,ha⟩
 simp only[go_sem]
 by_cases h:(i:Int)<cs.length
 ·have hil:i<cs.length:=by omega
  have hg:cs.getD i default=cs[i]:=by simp[List.getD,hil]
  have hok:=okConv_i hil
  obtain⟨⟨b1,b2⟩,b3,b4⟩:=hB _ (List.getElem_mem hil)
  have c1:=c70 cs[i] b1 b2 b3 b4
  have c2:=c71T (cs.take i) cs[i] (by simp;omega)
  simp only[eq_true h,go_sem]
  with_reducible repeat' (first|refine br ?_ ?_<;>intro h e<;>(try simp only[e,go_sem,hg,mkf_pv1])<;>clear e|rw[i64w (by omega)]|refine sd ?_<;>try simp only[go_sem,hg,mkf_pv1]|(first|refine cr (c1 ..) ?_)<;>try simp only[go_sem,hg,mkf_pv1]|fail)
  ·exact okConv_b hil (by rw[hok];simp_all)
  refine callF c2 [1004] true (by simp only[go_sem,List.mem_cons,true_or,or_true]) (by simp only[List.mem_singleton];rintro c rfl;rfl) rfl (.inl rfl) ?_
  have he:(cs.take i).any (fun o=>decide (o.ins=cs[i].ins)||decide (o.out=cs[i].out))=(cs.take i).any (sameC cs[i]):=rfl
  rw[he] at hok
  generalize (cs.take i).any (sameC cs[i])=b at *
  simp only[go_sem]
  cases b<;>simp only[go_sem]
  ·with_reducible repeat' (first|refine br ?_ ?_<;>intro h e<;>(try simp only[e,go_sem])<;>clear e|rw[i64w (by omega)]|refine sd ?_<;>try simp only[go_sem]|fail)
   refine⟨i+1,by omega,⟨by omega,fun j hj=>?_⟩,(leQ [])⟩
   rcases Nat.lt_or_ge j i with hji|hji
   ·exact ha j hji
   ·obtain rfl:j=i:=by omega
    rw[hok];simp_all
  ·exact okConv_b hil (by rw[hok];simp_all)
 ·simp only[eq_false h,go_sem]
  have:i=cs.length:=by omega
  subst this
  with_reducible repeat' (first|refine br ?_ ?_<;>intro h e<;>(try simp only[e,go_sem])<;>clear e|rw[i64w (by omega)]|refine sd ?_<;>try simp only[go_sem]|fail)
  have h1:=together_iff (cs:=cs)
  by_cases h2:cs.length≤2
  ·rw[h1.2 ⟨h2,ha⟩];exact(decide_eq_true (by omega)).symm
  ·have:together cs=false:=by
    cases ht:together cs with
    | false=>rfl
    | true=>exact absurd (h1.1 ht).1 h2
   rw[this];exact(decide_eq_false (by omega)).symm
end Go.Proofs.YtiegngjdjheebaaGreatDoor.W
