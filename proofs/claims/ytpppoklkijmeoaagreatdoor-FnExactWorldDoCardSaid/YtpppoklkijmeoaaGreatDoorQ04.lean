/- Part 4 of the proof: the walk over values, the plain model, contracts of the functions of the program. -/
import Derived.Test.YtpppoklkijmeoaaGreatDoorQ03
import Derived.Test.YtpppoklkijmeoaaGreatDoorRows
import Derived.WalkKit
import Derived.ProofKit
import Derived.OpenShut
import Derived.ShutString
import Derived.ChangeOld
import Derived.Below
import Derived.Carry
import Derived.LaidMore
import Derived.LaidHandle
import Derived.Stop.LaidErr
import Derived.Stop.Joined
import Derived.Deep.DeepHandedRow
import Derived.Deep.DeepWitnessRowRef
import Derived.Shelf.Vars
import Derived.Test.YtpppoklkijmeoaaGreatDoorQ02
set_option linter.all false
namespace Go.Proofs.YtpppoklkijmeoaaGreatDoor.W
open Go Go.RowKit Go.Proofs Go.Proofs.YtpppoklkijmeoaaGreatDoor.VL Go.Proofs.YtpppoklkijmeoaaGreatDoor.M
def qxo:IC:=sR [oP 3 (.box 52 (.t 1)),oP 4 (.mv (.c i0))] (.seq (sR [mV 7 0,oP 8 (.len (.t 7)),oP 9 (.mv (.c i0))] (.block 0 (.loop (sR [bN 10 .lss 9 8] (.seq (cD 10 .skip (.exit 0)) (.seq (.block 1 (sR [oP 11 (.iad 3 (.t 7) (.t 9)),lA 12 3 11,oP 6 (.alloc 132 [i0,i0,i0]),nP (.sto 3 (.t 6) (.t 12))] (sR [fD 13 1 6,lA 14 2 13,lA 15 2 3,oP 16 (.eqs false [.i,.i] (.t 14) (.t 15))] (cD 16 (sR [fD 17 0 6,lD 18 1 17,mV 4 18] .ret) .skip)))) (.reg [oP 19 (.bin .add (.t 9) (cI 1)),mV 9 19]))))))) (sR [oP 4 (.mv (.c i0))] .ret))
theorem dg105:Dg Tryz.prog 105 Tryz.f105 qxo [(.t 4)]:=⟨Tryz.func105,by kernel_rfl,by kernel_rfl⟩
theorem qs0 (m:List Pair) (a p:Int) (hl:m.length≤2000000:=by omega):FnR Tryz.prog G 105 [.sl 3 (m.map Pair.row),.agg [.int .i64 a,.int .i64 p]] (.int .i64 (portOf m ⟨a,p⟩)):=by
 refine mF dg105 Tryz.ntmps105 ?_
 simp only[qxo,go_sem]
 refine q0d (λi:Nat=>⟨q0e [(3,.pv 3000003 0),(7,.sl 3 (m.map Pair.row)),(8,.int .i64 m.length),(9,.int .i64 (i:Int))],q01 [(3000003,.var 52 [.int .i64 a,.int .i64 p])]⟩) (λi=>m.length - i) (λi=>i≤m.length∧portOf m ⟨a,p⟩=portOf (m.drop i) ⟨a,p⟩) 0 (leQ []) ⟨Nat.zero_le _,by simp⟩ ?_
 intro i ⟨hi,ha⟩
 simp only[go_sem]
 by_cases h:(i:Int)<m.length
 ·simp only[eq_true h,go_sem]
  refine effG (by omega) ?_
  have hil:i<m.length:=by omega
  rw[List.drop_eq_getElem_cons hil,q3f] at ha
  have hg:m.getD i default=m[i]:=by simp[List.getD,hil]
  simp only[hg,go_sem,E.ext_iff']
  with_reducible repeat' (first|refine br ?_ ?_<;>intro h e<;>(try simp only[e,go_sem])<;>clear e|rw[q00 (by omega)]|refine sd ?_<;>try simp only[go_sem]|fail)
  ·rw[ha,if_pos h]
  ·refine⟨i+1,by omega,⟨by omega,by rw[ha,if_neg h]⟩,(leQ [])⟩
 ·simp only[eq_false h,go_sem]
  have:i=m.length:=by omega
  subst this
  rw[ha,List.drop_length,q72]
def qv9:IC:=sR [oP 4 (.alloc 52 [i0,i0]),oP 5 (.mv cF)] (.seq (sR [mV 8 0,oP 9 (.len (.t 8)),oP 10 (.mv (.c i0))] (.block 0 (.loop (sR [bN 11 .lss 10 9] (.seq (cD 11 .skip (.exit 0)) (.seq (.block 1 (sR [oP 12 (.iad 3 (.t 8) (.t 10)),lA 13 3 12,oP 7 (.alloc 132 [i0,i0,i0]),nP (.sto 3 (.t 7) (.t 13))] (sR [fD 14 0 7,lD 15 1 14,mV 16 1,bN 17 .eql 15 16] (cD 17 (sR [fD 18 1 7,lA 19 2 18,nP (.sto 2 (.t 4) (.t 19)),oP 5 (.mv cT)] .ret) .skip)))) (.reg [oP 20 (.bin .add (.t 10) (cI 1)),mV 10 20]))))))) (sR [oP 21 (.build [i0,i0] []),nP (.sto 2 (.t 4) (.t 21)),oP 5 (.mv cF)] .ret))
theorem dg170:Dg Tryz.prog 170 Tryz.f170 qv9 [(.cell 4 2 true),(.t 5)]:=⟨Tryz.func170,by kernel_rfl,by kernel_rfl⟩
theorem c170 (m:List Pair) (n:Int) (hl:m.length≤2000000:=by omega):FnR Tryz.prog G 170 [.sl 3 (m.map Pair.row),.int .i64 n] (rdV (q0x m n)):=by
 refine mF dg170 Tryz.ntmps170 ?_
 simp only[qv9,go_sem]
 refine q0d (λi:Nat=>⟨q0e [(1,.int .i64 n),(4,.pv 3000004 0),(8,.sl 3 (m.map Pair.row)),(9,.int .i64 m.length),(10,.int .i64 (i:Int))],q01 [(3000004,.var 52 [.int .i64 0,.int .i64 0])]⟩) (λi=>m.length - i) (λi=>i≤m.length∧q0x m n=q0x (m.drop i) n) 0 (leQ []) ⟨Nat.zero_le _,by simp⟩ ?_
 intro i ⟨hi,ha⟩
 simp only[go_sem]
 by_cases h:(i:Int)<m.length
 ·simp only[eq_true h,go_sem]
  refine effG (by omega) ?_
  have hil:i<m.length:=by omega
  rw[List.drop_eq_getElem_cons hil,qbj] at ha
  have hg:m.getD i default=m[i]:=by simp[List.getD,hil]
  simp only[hg,go_sem]
  with_reducible repeat' (first|refine br ?_ ?_<;>intro h e<;>(try simp only[e,go_sem])<;>clear e|rw[q00 (by omega)]|refine sd ?_<;>try simp only[go_sem]|fail)
  ·rw[ha,if_pos h];exact⟨⟨rfl,rfl⟩,rfl⟩
  ·refine⟨i+1,by omega,⟨by omega,by rw[ha,if_neg h]⟩,(leQ [])⟩
 ·simp only[eq_false h,go_sem]
  have:i=m.length:=by omega
  subst this
  rw[ha,List.drop_length]
  exact⟨⟨rfl,rfl⟩,rfl⟩
theorem qdq {m:List Pair} {i:Nat} (h:i<m.length):q3z m i=(decide (m[i].port=10+(i:Int))&&m[i].ins.inside&&!(m.take i).any λq=>decide (q.ins=m[i].ins)):=by
 simp[q3z,h]
theorem q4b {m:List Pair} {i:Nat} (h:i<m.length) (hb:q3z m i=false):mapOk m=false:=by
 have:(List.range m.length).all (q3z m)=false:=by
  rw[List.all_eq_false]
  exact⟨i,List.mem_range.2 h,by simp[hb]⟩
 simp[mapOk,this]
def quy:IC:=sR [oP 2 (.mv cF)] (.seq (sR [mV 5 0,oP 6 (.len (.t 5)),oP 7 (.mv (.c i0))] (.block 0 (.loop (sR [bN 8 .lss 7 6] (.seq (cD 8 .skip (.exit 0)) (.seq (.block 1 (sR [mV 9 7,oP 10 (.iad 3 (.t 5) (.t 7)),lA 11 3 10,oP 4 (.alloc 132 [i0,i0,i0]),mV 3 9,nP (.sto 3 (.t 4) (.t 11))] (.seq (.drw [0,1,0,4,15,31,63,127,255,511,1023,2047,4095,4095,16383,4095,36863,131071,262143,524287] [(0,fD 12 0 4),(1,lD 13 1 12),(2,mV 14 3),(3,oP 15 (.bin .add (cI 10) (.t 14))),(4,bN 16 .neq 13 15),(5,mV 17 16),(6,gF 18 17 (.fad 1 (.t 4))),(7,gF 19 17 (.ld 2 true (.t 18))),(8,gF 20 17 (.call 121 [.t 19])),(9,gF 21 17 (.un .not (.t 20))),(10,pT 22 17 21),(11,mV 23 22),(12,gF 24 23 (.mv (.t 0))),(13,gF 25 23 (.mv (.t 3))),(14,gF 26 23 (.slv 3 (.t 24) none (some (.t 25)))),(15,gF 27 23 (.fad 1 (.t 4))),(16,gF 28 23 (.ld 2 true (.t 27))),(17,gF 29 23 (.call 105 [.t 26,.t 28])),(18,gF 30 23 (.bin .neq (.t 29) (.c i0))),(19,pT 31 23 30)]) (cD 31 (sR [oP 2 (.mv cF)] .ret) .skip)))) (.reg [oP 32 (.bin .add (.t 7) (cI 1)),mV 7 32]))))))) (sR [mV 33 0,oP 34 (.len (.t 33)),oP 35 (.bin .leq (.t 34) (cI 8)),mV 2 35] .ret))
theorem dg104:Dg Tryz.prog 104 Tryz.f104 quy [(.t 2)]:=⟨Tryz.func104,by kernel_rfl,by kernel_rfl⟩
theorem c104 (m:List Pair) (hl:m.length≤2000000:=by omega):FnR Tryz.prog G 104 [.sl 3 (m.map Pair.row)] (.bool (mapOk m)):=by
 refine mF dg104 Tryz.ntmps104 ?_
 simp only[quy,go_sem]
 refine q0d (λi:Nat=>⟨q0e [(0,.sl 3 (m.map Pair.row)),(5,.sl 3 (m.map Pair.row)),(6,.int .i64 m.length),(7,.int .i64 (i:Int))],q01 []⟩) (λi=>m.length - i) (λi=>i≤m.length∧∀j,j<i→q3z m j=true) 0 (leQ []) ⟨Nat.zero_le _,by omega⟩ ?_
 intro i ⟨hi,ha⟩
 simp only[go_sem]
 by_cases h:(i:Int)<m.length
 ·simp only[eq_true h,go_sem]
  refine effG (by omega) ?_
  have hil:i<m.length:=by omega
  have hg:m.getD i default=m[i]:=by simp[List.getD,hil]
  have hp:∀p∈m.take i,p.port≠0:=λp hp=>by
   obtain⟨j,hj⟩:=List.getElem?_of_mem hp
   rw[List.getElem?_take] at hj
   split at hj
   ·rename_i hji
    have:=(q5v (ha j hji) hj).1
    omega
   ·cases hj
  have hok:=qdq hil
  have hne:=qbr (e:=m[i].ins) hp
  have hlt:(m.take i).length≤2000000:=by simp;omega
  simp only[hg,go_sem]
  with_reducible repeat' (first|refine br ?_ ?_<;>intro h e<;>(try simp only[e,go_sem])<;>clear e|rw[q00 (by omega)]|refine sd ?_<;>try simp only[go_sem]|(first|refine cr (qs4 ..) ?_|refine cr (qs0 ..) ?_)<;>try simp only[go_sem]|fail)
  all_goals(have hw:IntKind.i64.wrap (10+(i:Int))=10+i:=q00 (by omega))
  all_goals(try simp only[hw] at h)
  ·exact q4b hil (by rw[hok];simp at h;simp[h])
  ·exact q4b hil (by rw[hok];have h':m[i].ins.inside=false:=by simpa using h
                     simp[h'])
  ·rename_i h1 h2
   try simp only[hw] at h1
   refine⟨i+1,by omega,⟨by omega,λj hj=>?_⟩,(leQ [])⟩
   rcases Nat.lt_or_ge j i with hji|hji
   ·exact ha j hji
   ·obtain rfl:j=i:=by omega
    rw[hok]
    have h3:((m.take j).any λq=>decide (q.ins=m[j].ins))=false:=by
     cases hb:(m.take j).any λq=>decide (q.ins=m[j].ins) with
     | false=>rfl
     | true=>exact absurd h (hne.2 hb)
    have h2':m[j].ins.inside=true:=by simpa using h2
    have h1':m[j].port=10+(j:Int):=by simpa using h1
    rw[h3,h2'];simp[h1']
  ·exact q4b hil (by rw[hok,hne.1 h];simp)
 ·simp only[eq_false h,go_sem]
  have:i=m.length:=by omega
  subst this
  have:(List.range m.length).all (q3z m)=true:=by
   rw[List.all_eq_true];intro j hj;exact ha j (List.mem_range.1 hj)
  simp only[mapOk,this,Bool.true_and]
  apply decide_eq_decide.2;omega
def qqc:IC:=sR [oP 2 (.mv (.c .nils))] (sR [mV 3 0,oP 4 (.call 143 [.t 3]),oP 5 (.call 142 [.t 4]),mV 2 5] .ret)
theorem qzt:Dg Tryz.prog 112 Tryz.f112 qqc [(.t 2)]:=⟨Tryz.func112,by kernel_rfl,by kernel_rfl⟩
theorem c112 (rows:List (List V)) (hr:rows.length≤2000000:=by omega):FnP Tryz.prog G 112 0 [] [.sl 3 rows] (λr o=>r=.own 0 rows.length∧o=[.arr 132 3 rows]):=by
 refine mP qzt Tryz.ntmps112 ⟨_,_,rfl,rfl⟩ ?_
 simp only[qqc,go_sem]
 refine q14 (c143 rows hr) [] 4 1 (by simp only[go_sem];first|done|simp) (by simp) (by rintro _ _ ⟨rfl,rfl⟩;simp) (by intro i hi;obtain rfl:i=0:=(by omega);simp only[go_sem]) ?_
 rintro _ _ ⟨rfl,rfl⟩
 simp only[go_sem]
 refine q1z (o142 rows rows.length rfl) [100400] [] 5 1 (by simp only[go_sem];first|done|simp) (by simp only[go_sem];first|done|simp) (by simp) (by simp) (by rintro _ _ ⟨rfl,rfl⟩;simp) (by intro i hi;obtain rfl:i=0:=(by omega);simp only[go_sem]) ?_
 rintro _ _ ⟨rfl,rfl⟩
 simp only[go_sem]
 exact q1h (.own 0 rows.length) [.arr 132 3 rows] [(0,100500)] (by simp only[go_sem];first|done|simp) ⟨rfl,rfl⟩ (by simp only[go_sem]) (by simp[q11]) (by simp only[go_sem])
def qtm:IC:=sR [oP 3 (.box 52 (.t 1)),oP 4 (.mv (.c .nils)),oP 5 (.mv (.c i0)),oP 6 (.mv cF)] (sR [mV 10 0,oP 11 (.call 112 [.t 10]),mV 7 11] (.seq (sR [mV 12 0,lA 13 2 3,oP 14 (.call 105 [.t 12,.t 13]),mV 8 14] (sR [mV 15 8,oP 16 (.bin .neq (.t 15) (.c i0))] (cD 16 (sR [mV 17 7,mV 18 8,mV 4 17,mV 5 18,oP 6 (.mv cT)] .ret) .skip))) (sR [mV 19 0,oP 20 (.len (.t 19)),oP 21 (.bin .add (cI 10) (.t 20)),mV 9 21] (.seq (sR [mV 22 9,oP 23 (.bin .gtr (.t 22) (cI 17))] (cD 23 (sR [mV 24 7,mV 4 24,oP 5 (.mv (.c i0)),oP 6 (.mv cF)] .ret) .skip)) (sR [mV 25 7,mV 26 9,lA 27 2 3,oP 28 (.build [i0,i0,i0] [(0,(1,.t 26)),(1,(2,.t 27))]),oP 29 (.bsl 132 3 [.t 28]),oP 30 (.app 132 3 (.t 25) (.t 29)),oP 31 (.call 142 [.t 30]),mV 32 9,mV 4 31,mV 5 32,oP 6 (.mv cT)] .ret)))))
theorem dg167:Dg Tryz.prog 167 Tryz.f167 qtm [(.t 4),(.t 5),(.t 6)]:=⟨Tryz.func167,by kernel_rfl,by kernel_rfl⟩
theorem c167 (m:List Pair) (a p:Int) (hp:PortsOk m) (hl:m.length≤1000000):FnR Tryz.prog G 167 [.sl 3 (m.map Pair.row),.agg [.int .i64 a,.int .i64 p]]
 (.tup [.sl 3 ((mOut m ⟨a,p⟩).1.map Pair.row),.int .i64 (mOut m ⟨a,p⟩).2.1,.bool (mOut m ⟨a,p⟩).2.2]):=by
 refine mF dg167 Tryz.ntmps167 ?_
 have hp0:∀p∈m,p.port≠0:=λp h=>(hp p h).1
 have e1:=q5e (e:=⟨a,p⟩) hp0
 have e2:=q8l (e:=⟨a,p⟩) hp0
 simp only[qtm,go_sem]
 refine q14 (c112 (m.map Pair.row) (by simp;omega)) [] 11 1 (by simp only[go_sem];first|done|simp) (by simp) (by rintro _ _ ⟨rfl,rfl⟩;simp) (by intro i hi;obtain rfl:i=0:=(by omega);simp only[go_sem]) ?_
 rintro _ _ ⟨rfl,rfl⟩
 simp only[go_sem]
 with_reducible repeat' (first|refine br ?_ ?_<;>intro h e<;>(try simp only[e,go_sem])<;>clear e|rw[q00 (by omega)]|refine sd ?_<;>try simp only[go_sem]|(first|refine cr (qs0 ..) ?_)<;>try simp only[go_sem]|fail)
 all_goals(have hw:IntKind.i64.wrap (10+(m.length:Int))=10+m.length:=q00 (by omega))
 all_goals(try simp only[hw] at h)
 ·rename_i h0
  rw[e2 h0,if_pos (by omega)];exact⟨⟨rfl,rfl⟩,rfl,rfl⟩
 ·rename_i h0
  rw[e2 h0,if_neg (by omega)]
  refine q34 (c142 ((m++([⟨10+(m.length:Int),⟨a,p⟩⟩]:List Pair)).map Pair.row)) [3000030] true (by simp only[go_sem];first|done|simp[E.row,Pc.row,Pair.row,Part.row,Flw.row,Pk.row,Conv.row]) (by simp only[List.mem_singleton];rintro c rfl;rfl) rfl (.inl rfl) ?_
  simp only[go_sem]
 ·rw[e1 h];exact⟨⟨rfl,rfl⟩,rfl,rfl⟩
def qt9:IC:=sR [oP 5 (.box 169 (.t 1)),oP 8 (.mv (.c .nils)),oP 9 (.mv (.c s0))] (.seq (.block 0 (sR [fD 16 1 5,lD 17 1 16,mV 18 17,gT 19 18 (.mv (.t 3)),pF 20 18 19,mV 21 20,gT 22 21 (.fad 2 (.t 5)),gT 23 21 (.ld 2 true (.t 22)),gT 24 21 (.call 121 [.t 23]),pF 25 21 24,mV 15 25] (cD 15 (sR [mV 27 0,fD 28 2 5,lA 29 2 28,oP 30 (.call 167 [.t 27,.t 29]),mV 26 30,eX 31 26 0,eX 32 26 1,eX 33 26 2,mV 10 31,mV 11 32,mV 12 33] (sR [mV 34 12] (cD 34 (sR [mV 35 10,mV 36 11,oP 37 (.build [i0,i0] [(0,(1,cI 9)),(1,(1,.t 36))]),oP 38 (.call 190 [.t 37]),mV 8 35,mV 9 38] .ret) .skip))) (sR [fD 40 1 5,lD 41 1 40,mV 42 41,gT 43 42 (.mv (.t 3)),gT 44 42 (.un .not (.t 43)),pF 45 42 44,mV 46 45,gT 47 46 (.fad 2 (.t 5)),gT 48 46 (.ld 2 true (.t 47)),gT 49 46 (.call 114 [.t 48]),pF 50 46 49,mV 39 50] (cD 39 (sR [mV 52 0,fD 53 2 5,fD 54 1 53,lD 55 1 54,oP 56 (.call 170 [.t 52,.t 55]),mV 51 56,eX 57 51 0,eX 58 51 1,oP 13 (.alloc 52 [i0,i0]),nP (.sto 2 (.t 13) (.t 57)),mV 14 58] (sR [mV 59 14] (cD 59 (sR [mV 60 0,lA 61 2 13,oP 62 (.call 190 [.t 61]),mV 8 60,mV 9 62] .ret) .skip))) .skip))))) (sR [mV 63 0,mV 64 2,mV 8 63,mV 9 64] .ret))
theorem dg216:Dg Tryz.prog 216 Tryz.f216 qt9 [(.t 8),(.t 9)]:=⟨Tryz.func216,by kernel_rfl,by kernel_rfl⟩
theorem c216 (m:List Pair) (n:Nat) (b:Bool) (a p:Int) (s:B) (out:Bool) (hp:PortsOk m) (hl:m.length≤1000000):FnR Tryz.prog G 216 [.sl 3 (m.map Pair.row),.agg [.int .i64 n,.bool b,.int .i64 a,.int .i64 p],.str s,.bool out]
 (.tup [.sl 3 ((turn m ⟨n,b,⟨a,p⟩⟩ s out).1.map Pair.row),.str (turn m ⟨n,b,⟨a,p⟩⟩ s out).2]):=by
 refine mF dg216 Tryz.ntmps216 ?_
 simp only[qt9,go_sem]
 cases b<;>cases out<;>simp only[go_sem]
 all_goals
  repeat' (first
   | (refine q0m (qs4 ..) rfl rfl ?_;simp only[go_sem])
   | (refine q0m (qjb ..) rfl rfl ?_;simp only[go_sem])
   | (with_reducible refine cB (λh=>?_) (λh=>?_)<;>simp only[h,go_sem])
   | (refine q0m (c167 m a p hp hl) rfl rfl ?_;simp only[go_sem])
   | (refine q0m (c170 m p) rfl rfl ?_;simp only[go_sem])
   | (refine q0m (c190 ..) rfl rfl ?_;simp only[go_sem]))
 ·simp[turn,q2i]
 ·simp[turn,q0u]
 ·rename_i h0
  obtain⟨e,he⟩:=Option.isSome_iff_exists.1 h
  simp[turn,q2i,h0,he]
 ·rename_i h0
  have:q0x m p=none:=by simpa using h
  simp[turn,q2i,h0,this]
 ·simp[turn,q2i,h]
 ·rename_i h0
  rcases hmo:mOut m ⟨a,p⟩ with⟨x,port,ok⟩
  rw[hmo] at h
  simp only at h
  subst h
  simp[turn,q0u,h0,hmo]
 ·rename_i h0
  rcases hmo:mOut m ⟨a,p⟩ with⟨x,port,ok⟩
  rw[hmo] at h
  simp only at h
  subst h
  simp[turn,q0u,h0,hmo]
 ·simp[turn,q0u,h]
def ic95:IC:=sR [oP 2 (.mv (.c .nils))] (sR [oP 3 (.bsl 132 3 []),mV 4 0,oP 5 (.app 132 3 (.t 3) (.t 4)),mV 2 5] .ret)
theorem dg95:Dg Tryz.prog 95 Tryz.f95 ic95 [(.t 2)]:=⟨Tryz.func95,by kernel_rfl,by kernel_rfl⟩
theorem c95 (rows:List (List V)) (hr:rows.length≤2000000):FnP Tryz.prog G 95 0 [] [.sl 3 rows] (λr o=>r=.own 0 rows.length∧o=[.arr 132 3 rows]):=by
 refine mP dg95 Tryz.ntmps95 ⟨_,_,rfl,rfl⟩ ?_
 simp only[ic95,go_sem]
 with_reducible repeat' (first|refine br ?_ ?_<;>intro h e<;>(try simp only[e,go_sem])<;>clear e|rw[q00 (by omega)]|refine sd ?_<;>try simp only[go_sem]|fail)
 exact q1h (.own 0 rows.length) [.arr 132 3 rows] [(0,3000005)] (by simp only[go_sem];first|done|simp) ⟨rfl,rfl⟩ (by simp only[go_sem]) (by simp[q11]) (by simp only[go_sem])
def qzp:IC:=sR [oP 4 (.alloc 52 [i0,i0]),oP 5 (.mv cF)] (sR [mV 7 1,oP 8 (.bin .sub (.t 7) (cI 10)),mV 6 8] (.seq (sR [mV 9 6,mV 10 0,oP 11 (.len (.t 10)),oP 12 (.bin .sub (.t 11) (cI 1)),oP 13 (.call 20 [.t 9,.c i0,.t 12]),oP 14 (.un .not (.t 13))] (cD 14 (sR [oP 15 (.build [i0,i0] []),nP (.sto 2 (.t 4) (.t 15)),oP 5 (.mv cF)] .ret) .skip)) (sR [mV 16 0,mV 17 6,oP 18 (.iad 3 (.t 16) (.t 17)),fD 19 1 18,lA 20 2 19,nP (.sto 2 (.t 4) (.t 20)),oP 5 (.mv cT)] .ret)))
theorem dg181:Dg Tryz.prog 181 Tryz.f181 qzp [(.cell 4 2 true),(.t 5)]:=⟨Tryz.func181,by kernel_rfl,by kernel_rfl⟩
theorem c181 (m:List Pair) (n:Int) (hm:mapOk m=true) (hn : -1000000≤n∧n≤1000000):FnR Tryz.prog G 181 [.sl 3 (m.map Pair.row),.int .i64 n] (rdV (q0x m n)):=by
 refine mF dg181 Tryz.ntmps181 ?_
 obtain⟨hp,hl⟩:=q0b hm
 simp only[qzp,go_sem]
 have hat:=qcv hm n
 with_reducible repeat' (first|refine br ?_ ?_<;>intro h e<;>(try simp only[e,go_sem])<;>clear e|rw[q00 (by omega)]|refine sd ?_<;>try simp only[go_sem]|(first|refine cr (c20 ..) ?_)<;>try simp only[go_sem]|fail)
 ·rw[M.within_iff] at h
  rw[dif_pos (by omega)] at hat
  with_reducible repeat' (first|refine br ?_ ?_<;>intro h e<;>(try simp only[e,go_sem])<;>clear e|rw[q00 (by omega)]|refine sd ?_<;>try simp only[go_sem]|fail)
  have hg:m.getD (n - 10).toNat default=m[(n - 10).toNat]'(by omega):=by simp[List.getD,show(n - 10).toNat<m.length by omega]
  simp only[hg,hat,go_sem]
  exact⟨⟨rfl,rfl⟩,rfl⟩
 ·have:¬(0≤n - 10∧n - 10<m.length):=λhc=>by
   have:q0j (n - 10) 0 (m.length - 1)=true:=by rw[M.within_iff];omega
   rw[h] at this;cases this
  rw[dif_neg this] at hat
  rw[hat]
  exact⟨⟨rfl,rfl⟩,rfl⟩
def qz7:IC:=sR [oP 4 (.box 169 (.t 1)),oP 6 (.mv (.c s0))] (.seq (sR [fD 9 1 4,lD 10 1 9,oP 11 (.un .not (.t 10)),mV 12 11,gF 13 12 (.fad 2 (.t 4)),gF 14 12 (.ld 2 true (.t 13)),gF 15 12 (.call 120 [.t 14]),gF 16 12 (.un .not (.t 15)),pT 17 12 16] (cD 17 (sR [mV 18 2,mV 6 18] .ret) .skip)) (sR [mV 20 0,fD 21 2 4,fD 22 1 21,lD 23 1 22,oP 24 (.call 181 [.t 20,.t 23]),mV 19 24,eX 25 19 0,eX 26 19 1,oP 7 (.alloc 52 [i0,i0]),nP (.sto 2 (.t 7) (.t 25)),mV 8 26] (.seq (sR [mV 27 8,oP 28 (.un .not (.t 27))] (cD 28 (sR [mV 29 2,mV 6 29] .ret) .skip)) (sR [lA 30 2 7,oP 31 (.call 210 [.t 30]),oP 32 (.bin .add (.c (.str [64])) (.t 31)),oP 33 (.bin .add (.t 32) (.c (.str [59]))),mV 6 33] .ret))))
theorem dg200:Dg Tryz.prog 200 Tryz.f200 qz7 [(.t 6)]:=⟨Tryz.func200,by kernel_rfl,by kernel_rfl⟩
theorem c200 (m:List Pair) (n:Nat) (b:Bool) (a p:Int) (s:B) (hm:mapOk m=true):FnR Tryz.prog G 200 [.sl 3 (m.map Pair.row),.agg [.int .i64 n,.bool b,.int .i64 a,.int .i64 p],.str s] (.str (q2i m ⟨n,b,⟨a,p⟩⟩ s)):=by
 refine mF dg200 Tryz.ntmps200 ?_
 simp only[qz7,go_sem]
 cases b<;>simp only[go_sem]
 ·simp[q2i]
 refine q0m (qja ..) rfl rfl ?_
 simp only[go_sem]
 cases hd:E.door ⟨a,p⟩<;>simp only[go_sem]
 ·simp[q2i,hd]
 have hd':=hd
 rw[E.door_iff] at hd
 simp only at hd
 refine q0m (c181 m p hm (by omega)) rfl rfl ?_
 simp only[go_sem]
 cases hi:q0x m p with
 | none=>simp only[go_sem,Option.isSome_none];simp[q2i,hd',hi]
 | some e =>
   have:=qas (e:=e)
   simp only[go_sem,Option.isSome_some,Option.getD_some]
   refine q0m (c210 e.a e.p) rfl rfl ?_
   simp only[go_sem]
   repeat' (with_reducible refine pureG (by simp;omega) ?_;try simp only[go_sem])
   simp[q2i,hd',hi,name]
def outP (m:List Pair) (e:E) (r:V) (o:List Hs):Prop :=
 ((mOut m e).1=m∧r=.tup [.own 0 m.length,.int .i64 (mOut m e).2.1,.bool (mOut m e).2.2]∧o=[.arr 132 3 (m.map Pair.row)]) ∨
 (r=.tup [.own 1 (mOut m e).1.length,.int .i64 (mOut m e).2.1,.bool (mOut m e).2.2]∧o=[.dead,.arr 132 3 ((mOut m e).1.map Pair.row)]∧(mOut m e).2.2=true∧(mOut m e).1≠m)
theorem qgw:V.untup .undef=true:=rfl
theorem qty {F:Nat→Prop} {f:Nat→Nat} {h h':Nat→Hs} {v:V}:Wk2 F f h h' v .undef=True:=by cases v<;>rfl
theorem q1j (c o n:Nat):q06 (.view c o n)=[.view c o n]:=of_eq_true (eq_self _)
def qsc:IC:=sR [oP 3 (.box 52 (.t 1)),oP 4 (.mv (.c .nils)),oP 5 (.mv (.c i0)),oP 6 (.mv cF)] (.seq (sR [oP 7 (.mv (.c i0))] (.block 0 (.loop (.seq (sR [mV 9 7,mV 10 0,oP 11 (.len (.t 10)),bN 12 .lss 9 11] (cD 12 .skip (.exit 0))) (.seq (.block 1 (.seq (.drw [0,0,3,7,15,0,63] [(0,mV 15 0),(1,mV 16 7),(2,oP 17 (.iad 3 (.t 15) (.t 16))),(3,fD 18 1 17),(4,lA 19 2 18),(5,lA 20 2 3),(6,oP 21 (.eqs false [.i,.i] (.t 19) (.t 20)))]) (cD 21 (.seq (.drw [0,0,0,6,14,30,1,127,255] [(0,mV 22 0),(1,mV 23 0),(2,mV 24 7),(3,oP 25 (.iad 3 (.t 23) (.t 24))),(4,fD 26 0 25),(5,lD 27 1 26),(6,mV 4 22),(7,mV 5 27),(8,oP 6 (.mv cT))]) .ret) .skip))) (.reg [mV 13 7,oP 14 (.bin .add (.t 13) (cI 1)),mV 7 14])))))) (.seq (sR [mV 28 0,oP 29 (.len (.t 28)),oP 30 (.bin .gtr (.t 29) (cI 7))] (cD 30 (sR [mV 31 0,mV 4 31,oP 5 (.mv (.c i0)),oP 6 (.mv cF)] .ret) .skip)) (sR [mV 32 0,oP 33 (.len (.t 32)),oP 34 (.bin .add (cI 10) (.t 33)),mV 8 34] (sR [mV 35 0,mV 36 8,lA 37 2 3,oP 38 (.build [i0,i0,i0] [(0,(1,.t 36)),(1,(2,.t 37))]),oP 39 (.bsl 132 3 [.t 38]),oP 40 (.app 132 3 (.t 35) (.t 39)),mV 41 8,mV 4 40,mV 5 41,oP 6 (.mv cT)] .ret))))
theorem dg176:Dg Tryz.prog 176 Tryz.f176 qsc [(.t 4),(.t 5),(.t 6)]:=⟨Tryz.func176,by kernel_rfl,by kernel_rfl⟩
theorem c176 (m:List Pair) (a p:Int) (hp:PortsOk m) (hl:m.length≤1000000):FnP Tryz.prog G 176 1 [.arr 132 3 (m.map Pair.row)] [.own 0 m.length,.agg [.int .i64 a,.int .i64 p]] (outP m ⟨a,p⟩):=by
 refine mP dg176 Tryz.ntmps176 ?_ ?_
 ·by_cases h:(mOut m ⟨a,p⟩).1=m
  ·exact⟨_,_,.inl ⟨h,rfl,rfl⟩⟩
  ·refine⟨_,_,.inr ⟨rfl,rfl, ?_,h⟩⟩
   cases hb:(mOut m ⟨a,p⟩).2.2 with
   | true=>rfl
   | false =>
     exfalso
     apply h
     revert hb
     unfold mOut
     split
     ·simp
     ·split<;>simp
 simp only[qsc,go_sem]
 refine q0d (λi:Nat=>⟨q0e [(0,.own 0 m.length),(3,.pv 3000003 0),(7,.int .i64 (i:Int))],q01 [(0,.arr 132 3 (m.map Pair.row)),(3000003,.var 52 [.int .i64 a,.int .i64 p])]⟩) (λi=>m.length - i) (λi=>i≤m.length∧portOf m ⟨a,p⟩=portOf (m.drop i) ⟨a,p⟩) 0 (leQ []) ⟨Nat.zero_le _,by simp⟩ ?_
 intro i ⟨hi,ha⟩
 simp only[go_sem]
 by_cases h:(i:Int)<m.length
 ·have hil:i<m.length:=by omega
  have hg:m.getD i default=m[i]:=by simp[List.getD,hil]
  rw[List.drop_eq_getElem_cons hil,q3f] at ha
  simp only[eq_true h,go_sem]
  with_reducible repeat' (first|refine br ?_ ?_<;>intro h e<;>(try simp only[e,go_sem,q03 hil,hg,E.ext_iff'])<;>clear e|rw[q00 (by omega)]|refine sd ?_<;>try simp only[go_sem,q03 hil,hg,E.ext_iff']|fail)
  ·rw[if_pos h] at ha
   have hne:portOf m ⟨a,p⟩≠0:=by rw[ha];exact(hp m[i] (List.getElem_mem hil)).1
   have hf:=q5e (λp h=>(hp p h).1) hne
   refine q1h (.tup [.own 0 m.length,.int .i64 (mOut m ⟨a,p⟩).2.1,.bool (mOut m ⟨a,p⟩).2.2]) [.arr 132 3 (m.map Pair.row)] [] ?_ (.inl ⟨by rw[hf],rfl,rfl⟩) (by simp only[go_sem]) (by simp[q11]) (by simp only[go_sem];first|done|simp)
   simp only[go_sem,hf,ha]
   try simp
  ·refine⟨i+1,by omega,⟨by omega,by rw[ha,if_neg h]⟩,(leQ [])⟩
 ·simp only[eq_false h,go_sem]
  have:i=m.length:=by omega
  subst this
  rw[List.drop_length,q72] at ha
  have hf:=q8l (λp h=>(hp p h).1) ha
  with_reducible repeat' (first|refine br ?_ ?_<;>intro h e<;>(try simp only[e,go_sem])<;>clear e|rw[q00 (by omega)]|refine sd ?_<;>try simp only[go_sem]|fail)
  ·rw[if_pos (by omega)] at hf
   refine q1h (.tup [.own 0 m.length,.int .i64 (mOut m ⟨a,p⟩).2.1,.bool (mOut m ⟨a,p⟩).2.2]) [.arr 132 3 (m.map Pair.row)] [] ?_ (.inl ⟨by rw[hf],rfl,rfl⟩) (by simp only[go_sem]) (by simp[q11]) (by simp only[go_sem];first|done|simp)
   simp only[go_sem,hf]
   try simp
  ·rw[if_neg (by omega)] at hf
   refine q1h (.tup [.own 1 (mOut m ⟨a,p⟩).1.length,.int .i64 (mOut m ⟨a,p⟩).2.1,.bool (mOut m ⟨a,p⟩).2.2]) [.dead,.arr 132 3 ((mOut m ⟨a,p⟩).1.map Pair.row)] [(1,3000040)] ?_ (.inr ⟨rfl,rfl,by rw[hf],by rw[hf];simp⟩) ?_ (by simp[q11,q0f]) (by simp only[go_sem];first|done|simp)
   ·simp only[go_sem,hf];simp
   ·simp only[go_sem,hf];simp[Pair.row]
def qzg:IC:=sR [oP 3 (.box 52 (.t 1)),oP 4 (.mv (.c .nils)),oP 5 (.mv (.c i0)),oP 6 (.mv (.c (.bool false)))] (.seq (sR [oP 7 (.mv (.c i0))] (.block 0 (.loop (.seq (sR [mV 9 7,mV 10 0,oP 11 (.len (.t 10)),bN 12 .lss 9 11] (.cond (.t 12) .skip (.exit 0))) (.seq (.block 1 (.seq (.drw [0,0,3,7,15,0,63] [(0,mV 15 0),(1,mV 16 7),(2,oP 17 (.iad 3 (.t 15) (.t 16))),(3,fD 18 1 17),(4,lA 19 2 18),(5,lA 20 2 3),(6,oP 21 (.eqs false [.i,.i] (.t 19) (.t 20)))]) (.cond (.t 21) (.seq (.drw [0,0,0,6,14,30,1,127,255] [(0,mV 22 0),(1,mV 23 0),(2,mV 24 7),(3,oP 25 (.iad 3 (.t 23) (.t 24))),(4,fD 26 0 25),(5,lD 27 1 26),(6,mV 4 22),(7,mV 5 27),(8,oP 6 (.mv (.c (.bool true))))]) .ret) .skip))) (.reg [mV 13 7,oP 14 (.bin .add (.t 13) (.c (.int .i64 1))),mV 7 14])))))) (.seq (sR [mV 28 0,oP 29 (.len (.t 28)),oP 30 (.bin .gtr (.t 29) (.c (.int .i64 7)))] (.cond (.t 30) (sR [mV 31 0,mV 4 31,oP 5 (.mv (.c i0)),oP 6 (.mv (.c (.bool false)))] .ret) .skip)) (sR [mV 32 0,oP 33 (.len (.t 32)),oP 34 (.bin .add (.c (.int .i64 10)) (.t 33)),mV 8 34] (sR [mV 35 0,mV 36 8,lA 37 2 3,oP 38 (.build [i0,i0,i0] [(0,(1,.t 36)),(1,(2,.t 37))]),oP 39 (.bsn 132 3 [.t 38]),oP 40 (.apn 3 (.t 35) (.t 39)),mV 41 8,mV 4 40,mV 5 41,oP 6 (.mv (.c (.bool true)))] .ret))))
theorem dn176:DgN Tryz.prog 176 Tryz.f176 qzg [(.t 4),(.t 5),(.t 6)]:=⟨Tryz.func176,by kernel_rfl,by kernel_rfl⟩
theorem f176 (m:List Pair) (a p:Int) (hl:m.length<8) (h0:portOf m ⟨a,p⟩=0) (hp:PortsOk m):FnP Tryz.prog G 176 1 [.arr 132 3 (m.map Pair.row)] [.own 0 m.length,.agg [.int .i64 a,.int .i64 p]] (λr o=>r=.tup [.undef,.int .i64 (10+(m.length:Int)),.bool true]∧o=[.arr 132 3 (m.map Pair.row)]):=by
 refine mPN dn176 Tryz.ntmps176 ⟨_,_,rfl,rfl⟩ ?_
 simp only[qzg,go_sem]
 refine q0d (λi:Nat=>⟨q0e [(0,.own 0 m.length),(3,.pv 3000003 0),(7,.int .i64 (i:Int))],q01 [(0,.arr 132 3 (m.map Pair.row)),(3000003,.var 52 [.int .i64 a,.int .i64 p])]⟩) (λi=>m.length - i) (λi=>i≤m.length∧portOf m ⟨a,p⟩=portOf (m.drop i) ⟨a,p⟩) 0 (leQ []) ⟨Nat.zero_le _,by simp⟩ ?_
 intro i ⟨hi,ha⟩
 simp only[go_sem]
 by_cases h:(i:Int)<m.length
 ·have hil:i<m.length:=by omega
  have hg:m.getD i default=m[i]:=by simp[List.getD,hil]
  rw[List.drop_eq_getElem_cons hil,q3f] at ha
  simp only[eq_true h,go_sem]
  with_reducible repeat' (first|refine br ?_ ?_<;>intro h e<;>(try simp only[e,go_sem,q03 hil,hg,E.ext_iff'])<;>clear e|rw[q00 (by omega)]|refine sd ?_<;>try simp only[go_sem,q03 hil,hg,E.ext_iff']|fail)
  ·rw[if_pos h,h0] at ha
   exact absurd ha.symm (hp m[i] (List.getElem_mem hil)).1
  ·refine⟨i+1,by omega,⟨by omega,by rw[ha,if_neg h]⟩,(leQ [])⟩
 ·simp only[eq_false h,go_sem]
  have:i=m.length:=by omega
  subst this
  with_reducible repeat' (first|refine br ?_ ?_<;>intro h e<;>(try simp only[e,go_sem,qe1,qdp,qwt,qnk,q1j,List.flatMap_cons,List.flatMap_nil,Nat.reduceLT])<;>clear e|rw[q00 (by omega)]|refine sd ?_<;>try simp only[go_sem,qe1,qdp,qwt,qnk,q1j,List.flatMap_cons,List.flatMap_nil,Nat.reduceLT]|fail)
  ·omega
  exact q1h (.tup [.undef,.int .i64 (10+(m.length:Int)),.bool true]) [.arr 132 3 (m.map Pair.row)] [] (by simp only[qgw,qty,go_sem];first|done|simp) ⟨rfl,rfl⟩ (by simp only[go_sem]) (by simp[q11]) (by simp only[go_sem];first|done|simp)
def qwl:IC:=sR [oP 4 (.box 169 (.t 1)),oP 6 (.mv (.c .nils)),oP 7 (.mv (.c s0))] (.seq (sR [fD 11 1 4,lD 12 1 11,oP 13 (.un .not (.t 12)),mV 14 13,gF 15 14 (.fad 2 (.t 4)),gF 16 14 (.ld 2 true (.t 15)),gF 17 14 (.call 127 [.t 16]),gF 18 14 (.un .not (.t 17)),pT 19 14 18] (cD 19 (sR [mV 20 0,mV 21 2,mV 6 20,mV 7 21] .ret) .skip)) (sR [mV 23 0,fD 24 2 4,lA 25 2 24,oP 26 (.call 176 [.t 23,.t 25]),mV 22 26,eX 27 22 0,eX 28 22 1,eX 29 22 2,mV 8 27,mV 9 28,mV 10 29] (.seq (sR [mV 30 10,oP 31 (.un .not (.t 30))] (cD 31 (sR [mV 32 0,mV 33 2,mV 6 32,mV 7 33] .ret) .skip)) (sR [mV 34 8,mV 35 9,oP 36 (.build [i0,i0] [(0,(1,cI 9)),(1,(1,.t 35))]),oP 37 (.call 210 [.t 36]),oP 38 (.bin .add (.c (.str [64])) (.t 37)),oP 39 (.bin .add (.t 38) (.c (.str [59]))),mV 6 34,mV 7 39] .ret))))
theorem dg199:Dg Tryz.prog 199 Tryz.f199 qwl [(.t 6),(.t 7)]:=⟨Tryz.func199,by kernel_rfl,by kernel_rfl⟩
theorem c199 (m:List Pair) (n:Nat) (b:Bool) (a p:Int) (s:B) (hp:PortsOk m) (hl:m.length≤1000000):FnP Tryz.prog G 199 0 [.arr 132 3 (m.map Pair.row)] [.own 0 m.length,.agg [.int .i64 n,.bool b,.int .i64 a,.int .i64 p],.str s]
 (λr o=>r=.tup [.own 0 (q0u m ⟨n,b,⟨a,p⟩⟩ s).1.length,.str (q0u m ⟨n,b,⟨a,p⟩⟩ s).2]∧o=[.arr 132 3 ((q0u m ⟨n,b,⟨a,p⟩⟩ s).1.map Pair.row)]):=by
 refine mP dg199 Tryz.ntmps199 ⟨_,_,rfl,rfl⟩ ?_
 simp only[qwl,go_sem]
 have keep:∀l mm,q0u m ⟨n,b,⟨a,p⟩⟩ s=(m,s)→q0e l 6=.own 0 m.length→q0e l 7=.str s→q01 mm 0=.arr 132 3 (m.map Pair.row) →
  q6f [.t 6,.t 7] 0 (λr o=>r=.tup [.own 0 (q0u m ⟨n,b,⟨a,p⟩⟩ s).1.length,.str (q0u m ⟨n,b,⟨a,p⟩⟩ s).2]∧o=[.arr 132 3 ((q0u m ⟨n,b,⟨a,p⟩⟩ s).1.map Pair.row)]) .ret ⟨q0e l,q01 mm⟩:=λl mm h1 h2 h3 h4=>by
  refine q1h _ _ [] ?_ ⟨rfl,rfl⟩ ?_ (by simp[q11]) (by simp only[go_sem])
  ·simp only[go_sem,h1,h2,h3];try simp
  ·simp only[go_sem,h1,h4]
 cases b<;>simp only[go_sem]
 ·exact keep _ _ (by simp[q0u]) (by simp only[go_sem]) (by simp only[go_sem]) (by simp only[go_sem])
 refine q0m (c127 ..) rfl rfl ?_
 simp only[go_sem]
 cases hi:E.inside ⟨a,p⟩<;>simp only[go_sem]
 ·exact keep _ _ (by simp[q0u,hi]) (by simp only[go_sem]) (by simp only[go_sem]) (by simp only[go_sem])
 refine q1k (c176 m a p hp hl) [0] [] true 26 2 (by simp only[go_sem];first|done|simp) (by simp only[go_sem];first|done|simp) (by simp) (by simp) (by simp) ?_ ?_ ?_
 ·rintro res out (⟨_,rfl,rfl⟩|⟨rfl,rfl,_⟩)
  ·exact⟨by simp,by simp,.inl rfl,λi hi=>by obtain rfl:i=0:=(by omega);simp[chH,q0h]⟩
  ·exact⟨by simp,by simp,.inl rfl,λi hi=>by obtain rfl:i=0:=(by omega);simp[chH,q0h]⟩
 ·intro i hi
  have:i=0∨i=1:=by omega
  rcases this with rfl|rfl<;>simp only[go_sem]
 ·rintro res out (⟨h1,rfl,rfl⟩|⟨rfl,rfl,h3,_⟩)
  ·have hpo:∀c,(mOut m ⟨a,p⟩).2.2=c→q0u m ⟨n,true,⟨a,p⟩⟩ s=bif c then((mOut m ⟨a,p⟩).1,name ⟨9,(mOut m ⟨a,p⟩).2.1⟩) else(m,s):=λc hc=>by
    subst hc
    rcases hmo:mOut m ⟨a,p⟩ with⟨x,port,ok⟩
    cases ok<;>simp[q0u,hi,hmo]
   simp only[go_sem]
   cases hok:(mOut m ⟨a,p⟩).2.2<;>simp only[go_sem]
   ·exact keep _ _ (by rw[hpo _ hok];rfl) (by simp only[go_sem]) (by simp only[go_sem]) (by simp only[go_sem])
   ·have hpo:=hpo _ hok
    simp only[cond_true,h1] at hpo
    have hlt:=qas (e:=⟨9,(mOut m ⟨a,p⟩).2.1⟩)
    with_reducible repeat' (first|refine br ?_ ?_<;>intro h e<;>(try simp only[e,go_sem])<;>clear e|rw[q00 (by omega)]|refine sd ?_<;>try simp only[go_sem]|(first|refine cr (c210 ..) ?_)<;>try simp only[go_sem]|fail)
    refine q1h _ _ [] ?_ ⟨rfl,rfl⟩ ?_ (by simp[q11]) (by simp only[go_sem])
    ·simp only[go_sem,hpo];simp[name]
    ·simp only[go_sem,hpo]
  ·have hpo:q0u m ⟨n,true,⟨a,p⟩⟩ s=((mOut m ⟨a,p⟩).1,name ⟨9,(mOut m ⟨a,p⟩).2.1⟩):=by
    rcases hmo:mOut m ⟨a,p⟩ with⟨x,port,ok⟩
    rw[hmo] at h3
    simp only at h3
    subst h3
    simp[q0u,hi,hmo]
   simp only[go_sem,h3]
   have hlt:=qas (e:=⟨9,(mOut m ⟨a,p⟩).2.1⟩)
   with_reducible repeat' (first|refine br ?_ ?_<;>intro h e<;>(try simp only[e,go_sem])<;>clear e|rw[q00 (by omega)]|refine sd ?_<;>try simp only[go_sem]|(first|refine cr (c210 ..) ?_)<;>try simp only[go_sem]|fail)
   refine q1h _ _ [(0,102601)] ?_ ⟨rfl,rfl⟩ ?_ (by simp[q11]) (by simp only[go_sem])
   ·simp only[go_sem,hpo];simp[name]
   ·simp only[go_sem,hpo]
def qti:IC:=sR [oP 8 (.mv (.c .nils)),oP 9 (.mv (.c .nils))] (sR [mV 15 1,oP 16 (.len (.t 15)),oP 17 (.mks 9 1 (.t 16)),mV 10 17] (.seq (sR [mV 18 1,oP 19 (.len (.t 18)),oP 20 (.mv (.c i0))] (.block 0 (.loop (sR [bN 21 .lss 20 19] (.seq (cD 21 .skip (.exit 0)) (.seq (.block 1 (sR [oP 22 (.iad 4 (.t 18) (.t 20)),lA 23 4 22,oP 12 (.alloc 169 [i0,.bool false,i0,i0]),nP (.sto 4 (.t 12) (.t 23))] (.seq (.drw [0,0,0,0,8,28,0,127,255,511,511,1023,4095] [(0,mV 25 0),(1,lA 26 4 12),(2,mV 27 2),(3,fD 28 0 12),(4,lD 29 1 28),(5,oP 30 (.sls (.t 27) none (some (.t 29)))),(6,mV 31 3),(7,oP 32 (.call 216 [.t 25,.t 26,.t 30,.t 31])),(8,mV 24 32),(9,eX 33 24 0),(10,eX 34 24 1),(11,mV 13 33),(12,mV 14 34)]) (sR [mV 35 13,mV 0 35] (sR [mV 36 10,mV 37 14,oP 38 (.call 217 [.t 37]),oP 39 (.bsl 9 1 [.t 38]),oP 40 (.app 9 1 (.t 36) (.t 39)),mV 10 40] (.reg [mV 41 2,fD 42 0 12,lD 43 1 42,oP 44 (.sls (.t 41) (some (.t 43)) none),mV 2 44])))))) (.reg [oP 45 (.bin .add (.t 20) (cI 1)),mV 20 45]))))))) (sR [mV 46 0,mV 47 10,mV 8 46,mV 9 47] .ret)))
theorem dg208:Dg Tryz.prog 208 Tryz.f208 qti [(.t 8),(.t 9)]:=⟨Tryz.func208,by kernel_rfl,by kernel_rfl⟩
theorem c208 (m:List Pair) (l:List Pc) (s:B) (out:Bool) (hp:PortsOk m) (hm:m.length≤100) (hl:l.length≤1000) (hs:s.length≤1000) (hf:fits l s) :
 FnR Tryz.prog G 208 [.sl 3 (m.map Pair.row),.sl 4 (l.map Pc.row),.str s,.bool out] (.tup [.sl 3 ((turned m l s out).1.map Pair.row),.sl 1 ((turned m l s out).2.map λx=>[.str x])]):=by
 refine mF dg208 Tryz.ntmps208 ?_
 simp only[qti,go_sem]
 with_reducible repeat' (first|refine br ?_ ?_<;>intro h e<;>(try simp only[e,go_sem])<;>clear e|rw[q00 (by omega)]|refine sd ?_<;>try simp only[go_sem]|fail)
 refine q0d (λa:List Pair×B×List B×Nat=>⟨q0e [(0,.sl 3 (a.1.map Pair.row)),(2,.str a.2.1),(3,.bool out),(10,.own 3000017 a.2.2.1.length),(18,.sl 4 (l.map Pc.row)),(19,.int .i64 l.length),(20,.int .i64 (a.2.2.2:Int))],q01 [(3000017,.arr 9 1 (a.2.2.1.map λx=>[.str x]))]⟩)
  (λa=>l.length - a.2.2.2) (λa=>a.2.2.2≤l.length∧PortsOk a.1∧a.1.length≤m.length+a.2.2.2∧a.2.1.length≤1000∧a.2.2.1.length=a.2.2.2∧fits (l.drop a.2.2.2) a.2.1 ∧
    turned m l s out=((turned a.1 (l.drop a.2.2.2) a.2.1 out).1,a.2.2.1++(turned a.1 (l.drop a.2.2.2) a.2.1 out).2)) (m,s,[],0)
  (leN [] (by simp only[go_sem];first|done|rfl) (by simp only[go_sem];first|done|rfl) (by simp[q0f]) (by simp only[go_sem])) ⟨by simp,hp,by simp,hs,rfl,by simpa using hf,by simp⟩ ?_
 intro⟨mm,ss,ts,i⟩ ⟨h1,h2,h3,h4,h5,h6,h7⟩
 simp only at h1 h2 h3 h4 h5 h6 h7
 simp only[go_sem]
 by_cases h:(i:Int)<l.length
 ·have hil:i<l.length:=by omega
  have hg:l.getD i default=l[i]:=by simp[List.getD,hil]
  rw[List.drop_eq_getElem_cons hil] at h6 h7
  generalize hq:l[i]=q at *
  simp only[eq_true h,go_sem]
  refine effG (by omega) ?_
  simp only[hg,go_sem]
  obtain⟨f1,f2⟩:=h6
  with_reducible repeat' (first|refine br ?_ ?_<;>intro h e<;>(try simp only[e,go_sem])<;>clear e|rw[q00 (by omega)]|refine sd ?_<;>try simp only[go_sem]|fail)
  have ht:=qei mm q (ss.take q.size) out
  simp only[List.length_take] at ht
  refine q0m (c216 mm q.size q.named q.e.a q.e.p _ out h2 (by omega)) rfl rfl ?_
  simp only[go_sem]
  have h2':=h2.turn q (ss.take q.size) out
  generalize htt:turn mm q (ss.take q.size) out=r at *
  with_reducible repeat' (first|refine br ?_ ?_<;>intro h e<;>(try simp only[e,go_sem])<;>clear e|rw[q00 (by omega)]|refine sd ?_<;>try simp only[go_sem]|(first|refine cr (c217 ..) ?_)<;>try simp only[go_sem]|fail)
  refine⟨(r.1,ss.drop q.size,ts++[r.2],i+1),by simp;omega,⟨by simp;omega,h2',by simp;omega,by simp;omega,by simp;omega,f2, ?_⟩,leN [(3000017,3000040)] ?_ ?_ (by simp[q0f]) (by simp only[go_sem])⟩
  ·rw[h7];simp[turned,htt]
  ·simp only[go_sem];simp
  ·simp only[go_sem];simp
 ·simp only[eq_false h,go_sem]
  have:i=l.length:=by omega
  subst this
  rw[h7]
  simp[turned]
def ic91:IC:=sR [oP 2 (.mv cF)] (.seq (sR [oP 3 (.mv (.c i0))] (.block 0 (.loop (.seq (sR [mV 5 3,mV 6 0,oP 7 (.len (.t 6)),bN 8 .lss 5 7] (cD 8 .skip (.exit 0))) (.seq (.block 1 (.seq (sR [mV 11 0,mV 12 3,oP 13 (.iad 3 (.t 11) (.t 12)),fD 14 0 13,lD 15 1 14,mV 16 3,oP 17 (.bin .add (cI 10) (.t 16)),bN 18 .neq 15 17,mV 19 18,gF 20 19 (.mv (.t 0)),gF 21 19 (.mv (.t 3)),gF 22 19 (.iad 3 (.t 20) (.t 21)),gF 23 19 (.fad 1 (.t 22)),gF 24 19 (.ld 2 true (.t 23)),gF 25 19 (.call 127 [.t 24]),gF 26 19 (.un .not (.t 25)),pT 27 19 26] (cD 27 (sR [oP 2 (.mv cF)] .ret) .skip)) (sR [oP 4 (.mv (.c i0))] (.block 2 (.loop (.seq (sR [mV 28 4,mV 29 3,bN 30 .lss 28 29] (cD 30 .skip (.exit 2))) (.seq (.block 3 (.seq (.drw [0,0,3,7,15,0,0,96,224,480,1023] [(0,mV 33 0),(1,mV 34 4),(2,oP 35 (.iad 3 (.t 33) (.t 34))),(3,fD 36 1 35),(4,lA 37 2 36),(5,mV 38 0),(6,mV 39 3),(7,oP 40 (.iad 3 (.t 38) (.t 39))),(8,fD 41 1 40),(9,lA 42 2 41),(10,oP 43 (.eqs false [.i,.i] (.t 37) (.t 42)))]) (cD 43 (sR [oP 2 (.mv cF)] .ret) .skip))) (.reg [mV 31 4,oP 32 (.bin .add (.t 31) (cI 1)),mV 4 32])))))))) (.reg [mV 9 3,oP 10 (.bin .add (.t 9) (cI 1)),mV 3 10])))))) (sR [mV 44 0,oP 45 (.len (.t 44)),oP 46 (.bin .leq (.t 45) (cI 8)),mV 2 46] .ret))
theorem dg91:Dg Tryz.prog 91 Tryz.f91 ic91 [(.t 2)]:=⟨Tryz.func91,by kernel_rfl,by kernel_rfl⟩
theorem c91 (m:List Pair) (hl:m.length≤2000000:=by omega):FnR Tryz.prog G 91 [.sl 3 (m.map Pair.row)] (.bool (mapOk m)):=by
 refine mF dg91 Tryz.ntmps91 ?_
 simp only[ic91,go_sem]
 refine q0d (λi:Nat=>⟨q0e [(0,.sl 3 (m.map Pair.row)),(3,.int .i64 (i:Int))],q01 []⟩) (λi=>m.length - i) (λi=>i≤m.length∧∀j,j<i→q3z m j=true) 0 (leQ []) ⟨Nat.zero_le _,by omega⟩ ?_
 intro i ⟨hi,ha⟩
 simp only[go_sem]
 by_cases h:(i:Int)<m.length
 ·simp only[eq_true h,go_sem]
  refine effG (by omega) ?_
  have hil:i<m.length:=by omega
  have hg:m.getD i default=m[i]:=by simp[List.getD,hil]
  have hok:=qdq hil
  simp only[hg,go_sem]
  have hw:IntKind.i64.wrap (10+(i:Int))=10+i:=q00 (by omega)
  simp only[hw]
  with_reducible repeat' (first|refine br ?_ ?_<;>intro h e<;>(try simp only[e,go_sem,hg])<;>clear e|rw[q00 (by omega)]|refine sd ?_<;>try simp only[go_sem,hg]|(first|refine cr (c127 ..) ?_)<;>try simp only[go_sem,hg]|fail)
  ·exact q4b hil (by rw[hok];simp at h;simp[h])
  ·rename_i h1
   have h1':m[i].port=10+(i:Int):=by simpa using h1
   rw[h1',h] at hok
   refine q0d (λk:Nat=>⟨q0e [(0,.sl 3 (m.map Pair.row)),(3,.int .i64 (i:Int)),(4,.int .i64 (k:Int))],q01 []⟩) (λk=>i - k) (λk=>k≤i∧((m.take k).any λq=>decide (q.ins=m[i].ins))=false) 0 (leQ []) ⟨Nat.zero_le _,by simp⟩ ?_
   intro k ⟨hk,hka⟩
   simp only[go_sem]
   by_cases hki:(k:Int)<i
   ·have hkl:k<m.length:=by omega
    have hgk:m.getD k default=m[k]:=by simp[List.getD,hkl]
    have hst:((m.take (k+1)).any λq=>decide (q.ins=m[i].ins))=(((m.take k).any λq=>decide (q.ins=m[i].ins))||decide (m[k].ins=m[i].ins)):=by
     rw[List.take_add_one,zE hkl]
     simp only[Option.toList_some,List.any_append,List.any_cons,List.any_nil,Bool.or_false]
    simp only[eq_true hki,go_sem,hgk,hg,E.ext_iff']
    with_reducible repeat' (first|refine br ?_ ?_<;>intro h e<;>(try simp only[e,go_sem,hgk,hg,E.ext_iff'])<;>clear e|rw[q00 (by omega)]|refine sd ?_<;>try simp only[go_sem,hgk,hg,E.ext_iff']|fail)
    ·refine q4b hil ?_
     rw[hok]
     have:((m.take i).any λq=>decide (q.ins=m[i].ins))=true:=by
      rw[List.any_eq_true]
      refine⟨m[k], ?_,by simpa using h⟩
      rw[List.mem_iff_getElem?]
      exact⟨k,by rw[List.getElem?_take,if_pos (by omega),zE hkl]⟩
     simp[this]
    ·refine⟨k+1,by omega,⟨by omega, ?_⟩,(leQ [])⟩
     rw[hst,hka];simpa using h
   ·simp only[eq_false hki,go_sem]
    have:k=i:=by omega
    subst this
    rw[hka] at hok
    with_reducible repeat' (first|refine br ?_ ?_<;>intro h e<;>(try simp only[e,go_sem])<;>clear e|rw[q00 (by omega)]|refine sd ?_<;>try simp only[go_sem]|fail)
    refine⟨k+1,by omega,⟨by omega,λj hj=>?_⟩,(leQ [])⟩
    rcases Nat.lt_or_ge j k with hji|hji
    ·exact ha j hji
    ·obtain rfl:j=k:=by omega
     rw[hok];simp
  ·exact q4b hil (by rw[hok];simp[h])
 ·simp only[eq_false h,go_sem]
  have:i=m.length:=by omega
  subst this
  have:(List.range m.length).all (q3z m)=true:=by
   rw[List.all_eq_true];intro j hj;exact ha j (List.mem_range.1 hj)
  simp only[mapOk,this,Bool.true_and]
  apply decide_eq_decide.2;omega
def qx2:IC:=sR [oP 6 (.mv (.c s0)),oP 7 (.mv cF)] (.seq (sR [mV 8 1,mV 9 0,oP 10 (.lens (.t 9)),bN 11 .gtr 8 10,mV 12 11,gF 13 12 (.mv (.t 1)),gF 14 12 (.mv (.t 2)),gF 15 12 (.lens (.t 14)),gF 16 12 (.bin .add (.t 13) (.t 15)),gF 17 12 (.bin .gtr (.t 16) (cI 40)),pT 18 12 17] (cD 18 (sR [mV 19 0,mV 6 19,oP 7 (.mv cF)] .ret) .skip)) (.seq (sR [mV 20 1,mV 21 2,oP 22 (.lens (.t 21)),bN 23 .add 20 22,mV 24 0,oP 25 (.lens (.t 24)),bN 26 .leq 23 25] (cD 26 (sR [mV 27 0,mV 6 27,oP 7 (.mv cT)] .ret) .skip)) (sR [mV 28 0,mV 29 2,mV 30 0,oP 31 (.lens (.t 30)),mV 32 1,bN 33 .sub 31 32,oP 34 (.sls (.t 29) (some (.t 33)) none),bN 35 .add 28 34,mV 6 35,oP 7 (.mv cT)] .ret)))
theorem dg149:Dg Tryz.prog 149 Tryz.f149 qx2 [(.t 6),(.t 7)]:=⟨Tryz.func149,by kernel_rfl,by kernel_rfl⟩
theorem c149 (came:B) (n:Int) (text:B) (hn:0≤n∧n≤1000) (hc:came.length≤1000) (ht:text.length≤1000):FnR Tryz.prog G 149 [.str came,.int .i64 n,.str text] (.tup [.str (q0a came n text).1,.bool (q0a came n text).2]):=by
 refine mF dg149 Tryz.ntmps149 ?_
 simp only[qx2,go_sem]
 with_reducible repeat' (first|rw[q00 (by omega)];try simp only[go_sem]|refine br ?_ ?_<;>intro h e<;>(try simp only[e,go_sem])<;>clear e|refine sd ?_<;>try simp only[go_sem]|fail)
 ·have:q0a came n text=(came,false):=by
   unfold q0a;rw[if_pos (by simp;omega)]
  rw[this];exact⟨rfl,rfl⟩
 ·have:q0a came n text=(came,false):=by
   unfold q0a;rw[if_pos (by simp;omega)]
  rw[this];exact⟨rfl,rfl⟩
 ·have:q0a came n text=(came,true):=by
   unfold q0a;rw[if_neg (by simp;omega),if_pos (by omega)]
  rw[this];exact⟨rfl,rfl⟩
 ·refine pureG (by simp;omega) ?_
  simp only[go_sem]
  have:q0a came n text=(came++text.drop (came.length - n).toNat,true):=by
   unfold q0a;rw[if_neg (by simp;omega),if_neg (by omega)]
  rw[this,List.take_length];exact⟨rfl,rfl⟩
def qzf:IC:=sR [oP 2 (.box 167 (.t 0)),oP 3 (.box 169 (.t 1)),oP 4 (.mv cF)] (sR [fD 5 0 2,lD 6 1 5,fD 7 0 3,lD 8 1 7,bN 9 .eql 6 8,mV 10 9,gT 11 10 (.fad 1 (.t 2)),gT 12 10 (.ld 1 false (.t 11)),gT 13 10 (.lens (.t 12)),gT 14 10 (.call 27 [.t 13,cI 1,cI 6]),pF 15 10 14,mV 16 15,gT 17 16 (.fad 1 (.t 2)),gT 18 16 (.ld 1 false (.t 17)),gT 19 16 (.call 111 [.t 18]),pF 20 16 19,mV 4 20] .ret)
theorem dg140:Dg Tryz.prog 140 Tryz.f140 qzf [(.t 4)]:=⟨Tryz.func140,by kernel_rfl,by kernel_rfl⟩
theorem c140 (n:Int) (t:B) (k:Nat) (b:Bool) (x y:Int) (ht:t.length≤2000000):FnR Tryz.prog G 140 [.agg [.int .i64 n,.str t],.agg [.int .i64 k,.bool b,.int .i64 x,.int .i64 y]] (.bool (q4u ⟨n,t⟩ ⟨k,b,⟨x,y⟩⟩)):=by
 refine mF dg140 Tryz.ntmps140 ?_
 simp only[qzf,go_sem]
 with_reducible repeat' (first|refine br ?_ ?_<;>intro h e<;>(try simp only[e,go_sem])<;>clear e|rw[q00 (by omega)]|refine sd ?_<;>try simp only[go_sem]|(first|refine cr (c27 ..) ?_|refine cr (qpd ..) ?_)<;>try simp only[go_sem]|fail)
 all_goals simp[q4u, *]
theorem q7b {ps:List Part} {qs:List Pc} {i:Nat} (h:i<ps.length) (hl:ps.length=qs.length):q0r (ps.drop i) (qs.drop i)=(q4u (ps.getD i default) (qs.getD i default)&&q0r (ps.drop (i+1)) (qs.drop (i+1))):=by
 rw[List.drop_eq_getElem_cons h,List.drop_eq_getElem_cons (show i<qs.length by omega)]
 simp[q0r,List.getD,h,show i<qs.length by omega]
theorem q9z:∀ {ps:List Part} {qs:List Pc},ps.length≠qs.length→q0r ps qs=false:=fun {ps qs} h=>by
 cases hc:q0r ps qs with
 | false=>rfl
 | true=>exact absurd (q4l hc) h
def quj:IC:=sR [oP 6 (.mv cF)] (.seq (sR [mV 10 0,oP 11 (.len (.t 10)),mV 12 1,oP 13 (.len (.t 12)),bN 14 .neq 11 13] (cD 14 (sR [oP 6 (.mv cF)] .ret) .skip)) (.seq (sR [mV 15 0,oP 16 (.len (.t 15)),oP 17 (.mv (.c i0))] (.block 0 (.loop (sR [bN 18 .lss 17 16] (.seq (cD 18 .skip (.exit 0)) (.seq (.block 1 (sR [mV 19 17,oP 20 (.iad 2 (.t 15) (.t 17)),lA 21 2 20,oP 8 (.alloc 167 [i0,s0]),mV 7 19,nP (.sto 2 (.t 8) (.t 21))] (sR [mV 22 1,mV 23 7,oP 24 (.iad 4 (.t 22) (.t 23)),lA 25 4 24,oP 9 (.alloc 169 [i0,.bool false,i0,i0]),nP (.sto 4 (.t 9) (.t 25))] (sR [mV 26 2,lA 27 2 8,lA 28 4 9,oP 29 (.cal (.t 26) [.t 27,.t 28]),oP 30 (.un .not (.t 29))] (cD 30 (sR [oP 6 (.mv cF)] .ret) .skip))))) (.reg [oP 31 (.bin .add (.t 17) (cI 1)),mV 17 31]))))))) (sR [oP 6 (.mv cT)] .ret)))
theorem dg138:Dg Tryz.prog 138 Tryz.f138 quj [(.t 6)]:=⟨Tryz.func138,by kernel_rfl,by kernel_rfl⟩
theorem c138 (ps:List Part) (qs:List Pc) (hp:ps.length≤2000000) (hq:qs.length≤2000000) (ht:∀p∈ps,p.text.length≤2000000) :
 FnR Tryz.prog G 138 [.sl 2 (ps.map Part.row),.sl 4 (qs.map Pc.row),.fn 140 []] (.bool (q0r ps qs)):=by
 refine mF dg138 Tryz.ntmps138 ?_
 simp only[quj,go_sem]
 with_reducible repeat' (first|refine br ?_ ?_<;>intro h e<;>(try simp only[e,go_sem])<;>clear e|rw[q00 (by omega)]|refine sd ?_<;>try simp only[go_sem]|fail)
 ·refine q0d (λi:Nat=>⟨q0e [(1,.sl 4 (qs.map Pc.row)),(2,.fn 140 []),(15,.sl 2 (ps.map Part.row)),(16,.int .i64 ps.length),(17,.int .i64 (i:Int))],q01 []⟩) (λi=>ps.length - i) (λi=>i≤ps.length∧q0r ps qs=q0r (ps.drop i) (qs.drop i)) 0 (leQ []) ⟨Nat.zero_le _,by simp⟩ ?_
  intro i ⟨hi,ha⟩
  simp only[go_sem]
  have hlen:ps.length=qs.length:=by omega
  by_cases hil:(i:Int)<ps.length
  ·have hst:=q7b (show i<ps.length by omega) hlen
   have htx:(ps.getD i default).text.length≤2000000:=by
    have:ps.getD i default=ps[i]'(by omega):=by simp[List.getD,show i<ps.length by omega]
    rw[this];exact ht _ (List.getElem_mem _)
   simp only[eq_true hil,go_sem]
   refine effG (by omega) ?_
   simp only[go_sem]
   refine effG (by omega) ?_
   simp only[go_sem]
   refine q0m (c140 _ _ _ _ _ _ htx) rfl rfl ?_
   simp only[go_sem]
   with_reducible repeat' (first|rw[q00 (by omega)];try simp only[go_sem]|refine br ?_ ?_<;>intro h e<;>(try simp only[e,go_sem])<;>clear e|refine sd ?_<;>try simp only[go_sem]|fail)
   ·refine⟨i+1,by omega,⟨by omega, ?_⟩,(leQ [])⟩
    rw[ha,hst,h,Bool.true_and]
   ·rw[ha,hst,h,Bool.false_and]
  ·simp only[eq_false hil,go_sem]
   have:i=ps.length:=by omega
   subst this
   rw[ha,List.drop_length,hlen,List.drop_length];rfl
 ·rw[q9z (by omega)]
def qus:IC:=sR [oP 1 (.box 128 (.t 0)),oP 2 (.mv cF)] (.seq (sR [fD 3 0 1,lD 4 1 3,oP 5 (.call 111 [.t 4]),oP 6 (.un .not (.t 5))] (cD 6 (sR [oP 2 (.mv cF)] .ret) .skip)) (.seq (.drw [0,1,0,4,12,31,63] [(0,fD 7 1 1),(1,lD 8 1 7),(2,fD 9 0 1),(3,lD 10 1 9),(4,oP 11 (.call 139 [.t 10])),(5,oP 12 (.call 138 [.t 8,.t 11,.c (.fn 140 [])])),(6,mV 2 12)]) .ret))
theorem dg108:Dg Tryz.prog 108 Tryz.f108 qus [(.t 2)]:=⟨Tryz.func108,by kernel_rfl,by kernel_rfl⟩
theorem c108 (s:Strm) (h:SB s):FnR Tryz.prog G 108 [.agg [.str s.inn,.sl 2 (s.parts.map Part.row)]] (.bool (strmOk s)):=by
 refine mF dg108 Tryz.ntmps108 ?_
 obtain⟨h1,h2,h3⟩:=h
 simp only[qus,go_sem]
 have hp:=q3c s.inn
 with_reducible repeat' (first|refine br ?_ ?_<;>intro h e<;>(try simp only[e,go_sem])<;>clear e|rw[q00 (by omega)]|refine sd ?_<;>try simp only[go_sem]|(first|refine cr (qpd ..) ?_|refine cr (c139 ..) ?_)<;>try simp only[go_sem]|fail)
 ·refine q0m (c138 s.parts (pieces s.inn) h2 (by omega) h3) rfl rfl ?_
  simp only[go_sem]
  with_reducible repeat' (first|refine br ?_ ?_<;>intro h e<;>(try simp only[e,go_sem])<;>clear e|rw[q00 (by omega)]|refine sd ?_<;>try simp only[go_sem]|fail)
  simp_all[strmOk]
 ·simp_all[strmOk]
def qtz:IC:=sR [oP 1 (.box 128 (.t 0)),oP 2 (.mv (.c s0))] (sR [oP 3 (.mv (.c s0))] (.seq (sR [oP 4 (.mv (.c i0))] (.block 0 (.loop (.seq (sR [mV 5 4,fD 6 1 1,lD 7 1 6,oP 8 (.len (.t 7)),bN 9 .lss 5 8] (cD 9 .skip (.exit 0))) (.seq (.block 1 (.reg [mV 12 3,fD 13 1 1,lD 14 1 13,mV 15 4,oP 16 (.iad 2 (.t 14) (.t 15)),fD 17 1 16,lD 18 1 17,bN 19 .add 12 18,mV 3 19])) (.reg [mV 10 4,oP 11 (.bin .add (.t 10) (cI 1)),mV 4 11])))))) (sR [mV 20 3,mV 2 20] .ret)))
theorem dg177:Dg Tryz.prog 177 Tryz.f177 qtz [(.t 2)]:=⟨Tryz.func177,by kernel_rfl,by kernel_rfl⟩
theorem c177 (s:Strm) (h:StrB s):FnR Tryz.prog G 177 [.agg [.str s.inn,.sl 2 (s.parts.map Part.row)]] (.str (sOut s)):=by
 refine mF dg177 Tryz.ntmps177 ?_
 obtain⟨h1,h2,h3⟩:=h
 have hol:=qgi (l:=s.parts) λp hp=>(h3 p hp).2.2.1
 simp only[qtz,go_sem]
 refine q0d (λi:Nat=>⟨q0e [(1,.pv 3000001 0),(3,.str (qld (s.parts.take i))),(4,.int .i64 (i:Int))],q01 [(3000001,.var 128 [.str s.inn,.sl 2 (s.parts.map Part.row)])]⟩) (λi=>s.parts.length - i) (λi=>i≤s.parts.length) 0 (leQ []) (Nat.zero_le _) ?_
 intro i hi
 simp only[go_sem]
 by_cases h:(i:Int)<s.parts.length
 ·have hil:i<s.parts.length:=by omega
  have hst:=qim hil
  have ho:=hol i
  have h3':=(h3 _ (List.getElem_mem hil)).2.2.1
  have hg:s.parts.getD i default=s.parts[i]:=by simp[List.getD,hil]
  simp only[eq_true h,go_sem]
  refine effG (by omega) ?_
  simp only[hg,go_sem]
  with_reducible repeat' (first|rw[q00 (by omega)];try simp only[go_sem]|refine br ?_ ?_<;>intro h e<;>(try simp only[e,go_sem])<;>clear e|refine sd ?_<;>try simp only[go_sem]|fail)
  exact⟨i+1,by omega,by omega,leN [] (by simp only[go_sem,hst];omega) (by simp only[go_sem]) (by simp[q0f]) (by simp only[go_sem])⟩
 ·simp only[eq_false h,go_sem]
  have:i=s.parts.length:=by omega
  subst this
  rw[List.take_length];rfl
def j07:IC:=sR [oP 1 (.box 128 (.t 0)),oP 2 (.mv (.c i0))] (sR [oP 3 (.mv (.c i0))] (.seq (sR [oP 4 (.mv (.c i0))] (.block 0 (.loop (.seq (sR [mV 5 4,fD 6 1 1,lD 7 1 6,oP 8 (.len (.t 7)),bN 9 .lss 5 8] (cD 9 .skip (.exit 0))) (.seq (.block 1 (.reg [mV 12 3,fD 13 1 1,lD 14 1 13,mV 15 4,oP 16 (.iad 2 (.t 14) (.t 15)),fD 17 0 16,lD 18 1 17,bN 19 .add 12 18,mV 3 19])) (.reg [mV 10 4,oP 11 (.bin .add (.t 10) (cI 1)),mV 4 11])))))) (sR [mV 20 3,mV 2 20] .ret)))
theorem dg198:Dg Tryz.prog 198 Tryz.f198 j07 [(.t 2)]:=⟨Tryz.func198,by kernel_rfl,by kernel_rfl⟩
theorem c198 (s:Strm) (h:StrB s):FnR Tryz.prog G 198 [.agg [.str s.inn,.sl 2 (s.parts.map Part.row)]] (.int .i64 (doneP s.parts)):=by
 refine mF dg198 Tryz.ntmps198 ?_
 obtain⟨h1,h2,h3⟩:=h
 have hol:=qec (l:=s.parts) λp hp=>(h3 p hp).1.2
 simp only[j07,go_sem]
 refine q0d (λi:Nat=>⟨q0e [(1,.pv 3000001 0),(3,.int .i64 (doneP (s.parts.take i))),(4,.int .i64 (i:Int))],q01 [(3000001,.var 128 [.str s.inn,.sl 2 (s.parts.map Part.row)])]⟩) (λi=>s.parts.length - i) (λi=>i≤s.parts.length) 0 (leQ []) (Nat.zero_le _) ?_
 intro i hi
 simp only[go_sem]
 by_cases h:(i:Int)<s.parts.length
 ·have hil:i<s.parts.length:=by omega
  have hst:=q96 hil
  have ho:=hol i
  have h3':=(h3 _ (List.getElem_mem hil)).1
  have hg:s.parts.getD i default=s.parts[i]:=by simp[List.getD,hil]
  simp only[eq_true h,go_sem]
  refine effG (by omega) ?_
  simp only[hg,go_sem]
  with_reducible repeat' (first|rw[q00 (by omega)];try simp only[go_sem]|refine br ?_ ?_<;>intro h e<;>(try simp only[e,go_sem])<;>clear e|refine sd ?_<;>try simp only[go_sem]|fail)
  exact⟨i+1,by omega,by omega,leN [] (by simp only[go_sem,hst];omega) (by simp only[go_sem]) (by simp[q0f]) (by simp only[go_sem])⟩
 ·simp only[eq_false h,go_sem]
  have:i=s.parts.length:=by omega
  subst this
  rw[List.take_length]
def qyu:IC:=sR [oP 2 (.box 128 (.t 0)),oP 4 (.mv (.c i0))] (sR [oP 5 (.mv (.c i0))] (.seq (sR [oP 6 (.mv (.c i0))] (.block 0 (.loop (.seq (sR [mV 7 6,fD 8 1 2,lD 9 1 8,oP 10 (.len (.t 9)),bN 11 .lss 7 10,mV 12 11,gT 13 12 (.fad 1 (.t 2)),gT 14 12 (.ld 1 false (.t 13)),gT 15 12 (.mv (.t 6)),gT 16 12 (.iad 2 (.t 14) (.t 15)),gT 17 12 (.fad 0 (.t 16)),gT 18 12 (.ld 1 false (.t 17)),gT 19 12 (.mv (.t 1)),gT 20 12 (.bin .leq (.t 18) (.t 19)),pF 21 12 20] (cD 21 .skip (.exit 0))) (.seq (.block 1 (sR [mV 24 1,fD 25 1 2,lD 26 1 25,mV 27 6,oP 28 (.iad 2 (.t 26) (.t 27)),fD 29 0 28,lD 30 1 29,bN 31 .sub 24 30,mV 1 31] (.reg [mV 32 5,fD 33 1 2,lD 34 1 33,mV 35 6,oP 36 (.iad 2 (.t 34) (.t 35)),fD 37 1 36,lD 38 1 37,oP 39 (.lens (.t 38)),bN 40 .add 32 39,mV 5 40]))) (.reg [mV 22 6,oP 23 (.bin .add (.t 22) (cI 1)),mV 6 23])))))) (sR [mV 41 5,mV 4 41] .ret)))
theorem dg201:Dg Tryz.prog 201 Tryz.f201 qyu [(.t 4)]:=⟨Tryz.func201,by kernel_rfl,by kernel_rfl⟩
theorem c201 (s:Strm) (n:Int) (h:StrB s) (hn : -10000≤n∧n≤10000):FnR Tryz.prog G 201 [.agg [.str s.inn,.sl 2 (s.parts.map Part.row)],.int .i64 n] (.int .i64 (q1l s.parts n)):=by
 refine mF dg201 Tryz.ntmps201 ?_
 obtain⟨h1,h2,h3⟩:=h
 simp only[qyu,go_sem]
 refine q0d (λa:Nat×Int×Int=>⟨q0e [(1,.int .i64 a.2.1),(2,.pv 3000002 0),(5,.int .i64 a.2.2),(6,.int .i64 (a.1:Int))],q01 [(3000002,.var 128 [.str s.inn,.sl 2 (s.parts.map Part.row)])]⟩) (λa=>s.parts.length - a.1)
  (λa=>a.1≤s.parts.length∧q1l s.parts n=a.2.2+q1l (s.parts.drop a.1) a.2.1∧(-20000≤a.2.1∧a.2.1≤10000) ∧ -10000 - 6*a.1≤a.2.1∧0≤a.2.2∧a.2.2≤6*a.1) (0,n,0) (leQ []) ⟨Nat.zero_le _,by simp,⟨by simp;omega,by simp;omega⟩,by simp;omega,by simp,by simp⟩ ?_
 intro⟨i,x,y⟩ ⟨hi,ha,hx,hx2,hy,hy2⟩
 simp only at hi ha hx hx2 hy hy2
 simp only[go_sem]
 by_cases h:(i:Int)<s.parts.length
 ·have hil:i<s.parts.length:=by omega
  have h3':=h3 _ (List.getElem_mem hil)
  have hg:s.parts.getD i default=s.parts[i]:=by simp[List.getD,hil]
  rw[List.drop_eq_getElem_cons hil] at ha
  simp only[q1l] at ha
  simp only[eq_true h,go_sem]
  refine effG (by omega) ?_
  simp only[hg,go_sem]
  with_reducible repeat' (first|rw[q00 (by omega)];try simp only[go_sem,hg]|refine br ?_ ?_<;>intro h e<;>(try simp only[e,go_sem,hg])<;>clear e|refine sd ?_<;>try simp only[go_sem,hg]|fail)
  ·rw[if_pos h] at ha
   exact⟨(i+1,x - s.parts[i].size,y+s.parts[i].text.length),by simp;omega,⟨by simp;omega,by simp only;rw[ha];omega,by simp only;omega,by simp only;omega,by simp only;omega,by simp only;omega⟩,(leQ [])⟩
  ·rw[if_neg h] at ha
   rw[ha];omega
 ·simp only[eq_false h,go_sem]
  have:i=s.parts.length:=by omega
  subst this
  rw[ha,List.drop_length];simp[q1l]
def qzz:IC:=sR [oP 2 (.box 128 (.t 0)),oP 4 (.mv (.c i0))] (sR [oP 5 (.mv (.c i0))] (.seq (sR [oP 6 (.mv (.c i0))] (.block 0 (.loop (.seq (sR [mV 7 6,fD 8 1 2,lD 9 1 8,oP 10 (.len (.t 9)),bN 11 .lss 7 10,mV 12 11,gT 13 12 (.fad 1 (.t 2)),gT 14 12 (.ld 1 false (.t 13)),gT 15 12 (.mv (.t 6)),gT 16 12 (.iad 2 (.t 14) (.t 15)),gT 17 12 (.fad 1 (.t 16)),gT 18 12 (.ld 1 false (.t 17)),gT 19 12 (.lens (.t 18)),gT 20 12 (.mv (.t 1)),gT 21 12 (.bin .leq (.t 19) (.t 20)),pF 22 12 21] (cD 22 .skip (.exit 0))) (.seq (.block 1 (sR [mV 25 1,fD 26 1 2,lD 27 1 26,mV 28 6,oP 29 (.iad 2 (.t 27) (.t 28)),fD 30 1 29,lD 31 1 30,oP 32 (.lens (.t 31)),bN 33 .sub 25 32,mV 1 33] (.reg [mV 34 5,fD 35 1 2,lD 36 1 35,mV 37 6,oP 38 (.iad 2 (.t 36) (.t 37)),fD 39 0 38,lD 40 1 39,bN 41 .add 34 40,mV 5 41]))) (.reg [mV 23 6,oP 24 (.bin .add (.t 23) (cI 1)),mV 6 24])))))) (sR [mV 42 5,mV 4 42] .ret)))
theorem dg178:Dg Tryz.prog 178 Tryz.f178 qzz [(.t 4)]:=⟨Tryz.func178,by kernel_rfl,by kernel_rfl⟩
theorem c178 (s:Strm) (n:Int) (h:StrB s) (hn : -10000≤n∧n≤10000):FnR Tryz.prog G 178 [.agg [.str s.inn,.sl 2 (s.parts.map Part.row)],.int .i64 n] (.int .i64 (q38 s.parts n)):=by
 refine mF dg178 Tryz.ntmps178 ?_
 obtain⟨h1,h2,h3⟩:=h
 simp only[qzz,go_sem]
 refine q0d (λa:Nat×Int×Int=>⟨q0e [(1,.int .i64 a.2.1),(2,.pv 3000002 0),(5,.int .i64 a.2.2),(6,.int .i64 (a.1:Int))],q01 [(3000002,.var 128 [.str s.inn,.sl 2 (s.parts.map Part.row)])]⟩) (λa=>s.parts.length - a.1)
  (λa=>a.1≤s.parts.length∧q38 s.parts n=a.2.2+q38 (s.parts.drop a.1) a.2.1∧(-20000≤a.2.1∧a.2.1≤10000) ∧ -10000 - 6*a.1≤a.2.1∧0≤a.2.2∧a.2.2≤6*a.1) (0,n,0) (leQ []) ⟨Nat.zero_le _,by simp,⟨by simp;omega,by simp;omega⟩,by simp;omega,by simp,by simp⟩ ?_
 intro⟨i,x,y⟩ ⟨hi,ha,hx,hx2,hy,hy2⟩
 simp only at hi ha hx hx2 hy hy2
 simp only[go_sem]
 by_cases h:(i:Int)<s.parts.length
 ·have hil:i<s.parts.length:=by omega
  have h3':=h3 _ (List.getElem_mem hil)
  have hg:s.parts.getD i default=s.parts[i]:=by simp[List.getD,hil]
  rw[List.drop_eq_getElem_cons hil] at ha
  simp only[q38] at ha
  simp only[eq_true h,go_sem]
  refine effG (by omega) ?_
  simp only[hg,go_sem]
  with_reducible repeat' (first|rw[q00 (by omega)];try simp only[go_sem,hg]|refine br ?_ ?_<;>intro h e<;>(try simp only[e,go_sem,hg])<;>clear e|refine sd ?_<;>try simp only[go_sem,hg]|fail)
  ·rw[if_pos h] at ha
   exact⟨(i+1,x - s.parts[i].text.length,y+s.parts[i].size),by simp;omega,⟨by simp;omega,by simp only;rw[ha];omega,by simp only;omega,by simp only;omega,by simp only;omega,by simp only;omega⟩,(leQ [])⟩
  ·rw[if_neg h] at ha
   rw[ha];omega
 ·simp only[eq_false h,go_sem]
  have:i=s.parts.length:=by omega
  subst this
  rw[ha,List.drop_length];simp[q38]
def qsb:IC:=sR [oP 2 (.box 128 (.t 0)),oP 4 (.mv (.c i0))] (sR [oP 5 (.mv (.c i0))] (.seq (sR [fD 8 1 2,lD 9 1 8,oP 10 (.len (.t 9)),oP 11 (.mv (.c i0))] (.block 0 (.loop (sR [bN 12 .lss 11 10] (.seq (cD 12 .skip (.exit 0)) (.seq (.block 1 (sR [oP 13 (.iad 2 (.t 9) (.t 11)),lA 14 2 13,oP 7 (.alloc 167 [i0,s0]),nP (.sto 2 (.t 7) (.t 14))] (.seq (sR [mV 15 1,fD 16 0 7,lD 17 1 16,bN 18 .sub 15 17,mV 1 18] (sR [mV 19 1,oP 20 (.bin .lss (.t 19) (.c i0))] (cD 20 (.exit 0) .skip))) (.reg [mV 21 5,fD 22 1 7,lD 23 1 22,oP 24 (.lens (.t 23)),bN 25 .add 21 24,mV 5 25])))) (.reg [oP 26 (.bin .add (.t 11) (cI 1)),mV 11 26]))))))) (sR [mV 27 5,mV 4 27] .ret)))
theorem dg195:Dg Tryz.prog 195 Tryz.f195 qsb [(.t 4)]:=⟨Tryz.func195,by kernel_rfl,by kernel_rfl⟩
theorem c195 (s:Strm) (n:Int) (h:StrB s) (hn : -10000≤n∧n≤10000):FnR Tryz.prog G 195 [.agg [.str s.inn,.sl 2 (s.parts.map Part.row)],.int .i64 n] (.int .i64 (q1l s.parts n)):=by
 refine mF dg195 Tryz.ntmps195 ?_
 obtain⟨h1,h2,h3⟩:=h
 simp only[qsb,go_sem]
 refine q0d (λa:Nat×Int×Int=>⟨q0e [(1,.int .i64 a.2.1),(5,.int .i64 a.2.2),(9,.sl 2 (s.parts.map Part.row)),(10,.int .i64 s.parts.length),(11,.int .i64 (a.1:Int))],q01 []⟩) (λa=>s.parts.length - a.1)
  (λa=>a.1≤s.parts.length∧q1l s.parts n=a.2.2+q1l (s.parts.drop a.1) a.2.1∧(-20000≤a.2.1∧a.2.1≤10000) ∧ -10000 - 6*a.1≤a.2.1∧0≤a.2.2∧a.2.2≤6*a.1) (0,n,0) (leQ []) ⟨Nat.zero_le _,by simp,⟨by simp;omega,by simp;omega⟩,by simp;omega,by simp,by simp⟩ ?_
 intro⟨i,x,y⟩ ⟨hi,ha,hx,hx2,hy,hy2⟩
 simp only at hi ha hx hx2 hy hy2
 simp only[go_sem]
 by_cases h:(i:Int)<s.parts.length
 ·have hil:i<s.parts.length:=by omega
  have h3':=h3 _ (List.getElem_mem hil)
  have hg:s.parts.getD i default=s.parts[i]:=by simp[List.getD,hil]
  rw[List.drop_eq_getElem_cons hil] at ha
  simp only[q1l] at ha
  simp only[eq_true h,go_sem]
  refine effG (by omega) ?_
  simp only[hg,go_sem]
  with_reducible repeat' (first|rw[q00 (by omega)];try simp only[go_sem,hg]|refine br ?_ ?_<;>intro h e<;>(try simp only[e,go_sem,hg])<;>clear e|refine sd ?_<;>try simp only[go_sem,hg]|fail)
  ·rw[if_neg (by omega)] at ha
   rw[ha];omega
  ·rw[if_pos (by omega)] at ha
   exact⟨(i+1,x - s.parts[i].size,y+s.parts[i].text.length),by simp;omega,⟨by simp;omega,by simp only;rw[ha];omega,by simp only;omega,by simp only;omega,by simp only;omega,by simp only;omega⟩,(leQ [])⟩
 ·simp only[eq_false h,go_sem]
  have:i=s.parts.length:=by omega
  subst this
  rw[ha,List.drop_length];simp[q1l]
def qts:IC:=sR [oP 2 (.box 128 (.t 0)),oP 4 (.mv (.c i0))] (sR [oP 5 (.mv (.c i0))] (.seq (sR [fD 8 1 2,lD 9 1 8,oP 10 (.len (.t 9)),oP 11 (.mv (.c i0))] (.block 0 (.loop (sR [bN 12 .lss 11 10] (.seq (cD 12 .skip (.exit 0)) (.seq (.block 1 (sR [oP 13 (.iad 2 (.t 9) (.t 11)),lA 14 2 13,oP 7 (.alloc 167 [i0,s0]),nP (.sto 2 (.t 7) (.t 14))] (.seq (sR [mV 15 1,fD 16 1 7,lD 17 1 16,oP 18 (.lens (.t 17)),bN 19 .sub 15 18,mV 1 19] (sR [mV 20 1,oP 21 (.bin .lss (.t 20) (.c i0))] (cD 21 (.exit 0) .skip))) (.reg [mV 22 5,fD 23 0 7,lD 24 1 23,bN 25 .add 22 24,mV 5 25])))) (.reg [oP 26 (.bin .add (.t 11) (cI 1)),mV 11 26]))))))) (sR [mV 27 5,mV 4 27] .ret)))
theorem dg193:Dg Tryz.prog 193 Tryz.f193 qts [(.t 4)]:=⟨Tryz.func193,by kernel_rfl,by kernel_rfl⟩
theorem c193 (s:Strm) (n:Int) (h:StrB s) (hn : -10000≤n∧n≤10000):FnR Tryz.prog G 193 [.agg [.str s.inn,.sl 2 (s.parts.map Part.row)],.int .i64 n] (.int .i64 (q38 s.parts n)):=by
 refine mF dg193 Tryz.ntmps193 ?_
 obtain⟨h1,h2,h3⟩:=h
 simp only[qts,go_sem]
 refine q0d (λa:Nat×Int×Int=>⟨q0e [(1,.int .i64 a.2.1),(5,.int .i64 a.2.2),(9,.sl 2 (s.parts.map Part.row)),(10,.int .i64 s.parts.length),(11,.int .i64 (a.1:Int))],q01 []⟩) (λa=>s.parts.length - a.1)
  (λa=>a.1≤s.parts.length∧q38 s.parts n=a.2.2+q38 (s.parts.drop a.1) a.2.1∧(-20000≤a.2.1∧a.2.1≤10000) ∧ -10000 - 6*a.1≤a.2.1∧0≤a.2.2∧a.2.2≤6*a.1) (0,n,0) (leQ []) ⟨Nat.zero_le _,by simp,⟨by simp;omega,by simp;omega⟩,by simp;omega,by simp,by simp⟩ ?_
 intro⟨i,x,y⟩ ⟨hi,ha,hx,hx2,hy,hy2⟩
 simp only at hi ha hx hx2 hy hy2
 simp only[go_sem]
 by_cases h:(i:Int)<s.parts.length
 ·have hil:i<s.parts.length:=by omega
  have h3':=h3 _ (List.getElem_mem hil)
  have hg:s.parts.getD i default=s.parts[i]:=by simp[List.getD,hil]
  rw[List.drop_eq_getElem_cons hil] at ha
  simp only[q38] at ha
  simp only[eq_true h,go_sem]
  refine effG (by omega) ?_
  simp only[hg,go_sem]
  with_reducible repeat' (first|rw[q00 (by omega)];try simp only[go_sem,hg]|refine br ?_ ?_<;>intro h e<;>(try simp only[e,go_sem,hg])<;>clear e|refine sd ?_<;>try simp only[go_sem,hg]|fail)
  ·rw[if_neg (by omega)] at ha
   rw[ha];omega
  ·rw[if_pos (by omega)] at ha
   exact⟨(i+1,x - s.parts[i].text.length,y+s.parts[i].size),by simp;omega,⟨by simp;omega,by simp only;rw[ha];omega,by simp only;omega,by simp only;omega,by simp only;omega,by simp only;omega⟩,(leQ [])⟩
 ·simp only[eq_false h,go_sem]
  have:i=s.parts.length:=by omega
  subst this
  rw[ha,List.drop_length];simp[q38]
def qp7:IC:=sR [oP 1 (.box 128 (.t 0)),oP 2 (.alloc 128 [s0,.nils])] (.seq (.drw [0,1,0,4,12,28,63,127] [(0,fD 3 0 1),(1,lD 4 1 3),(2,fD 5 1 1),(3,lD 6 1 5),(4,oP 7 (.call 165 [.t 6])),(5,oP 8 (.call 164 [.t 7])),(6,oP 9 (.build [s0,.nils] [(0,(1,.t 4)),(1,(1,.t 8))])),(7,nP (.sto 2 (.t 2) (.t 9)))]) .ret)
theorem j09:Dg Tryz.prog 144 Tryz.f144 qp7 [(.cell 2 2 true)]:=⟨Tryz.func144,by kernel_rfl,by kernel_rfl⟩
theorem c144 (t:B) (rows:List (List V)) (hr:rows.length≤2000000):FnR Tryz.prog G 144 [.agg [.str t,.sl 2 rows]] (.agg [.str t,.sl 2 rows]):=by
 refine mF j09 Tryz.ntmps144 ?_
 simp only[qp7,go_sem]
 repeat' (first
  | (with_reducible refine q4t ?_ ?_;· kernel_rfl;try simp only[go_sem])
  | (refine q14 (c165 rows hr) [] 7 1 (by simp only[go_sem];first|done|simp) (by simp) (by rintro _ _ ⟨rfl,rfl⟩;simp) (by intro i hi;obtain rfl:i=0:=(by omega);simp only[go_sem]) ?_;rintro _ _ ⟨rfl,rfl⟩;simp only[go_sem])
  | (refine q1z (o164 rows rows.length rfl) [100700] [] 8 1 (by simp only[go_sem];first|done|simp) (by simp only[go_sem];first|done|simp) (by simp) (by simp) (by rintro _ _ ⟨rfl,rfl⟩;simp) (by intro i hi;obtain rfl:i=0:=(by omega);simp only[go_sem]) ?_;rintro _ _ ⟨rfl,rfl⟩;simp only[go_sem])
  | kernel_rfl)
def ic96:IC:=sR [oP 1 (.box 128 (.t 0)),oP 2 (.alloc 128 [s0,.nils])] (.seq (.drw [0,1,0,0,8,28,63,127] [(0,fD 3 0 1),(1,lD 4 1 3),(2,oP 5 (.bsl 167 2 [])),(3,fD 6 1 1),(4,lD 7 1 6),(5,oP 8 (.app 167 2 (.t 5) (.t 7))),(6,oP 9 (.build [s0,.nils] [(0,(1,.t 4)),(1,(1,.t 8))])),(7,nP (.sto 2 (.t 2) (.t 9)))]) .ret)
theorem dg96:Dg Tryz.prog 96 Tryz.f96 ic96 [(.cell 2 2 true)]:=⟨Tryz.func96,by kernel_rfl,by kernel_rfl⟩
theorem c96 (t:B) (rows:List (List V)) (hr:rows.length≤2000000):FnR Tryz.prog G 96 [.agg [.str t,.sl 2 rows]] (.agg [.str t,.sl 2 rows]):=by
 refine mF dg96 Tryz.ntmps96 ?_
 simp only[ic96,go_sem]
 with_reducible repeat' (first|refine br ?_ ?_<;>intro h e<;>(try simp only[e,go_sem])<;>clear e|rw[q00 (by omega)]|refine sd ?_<;>try simp only[go_sem]|fail)
def ic93:IC:=sR [oP 1 (.box 128 (.t 0)),oP 2 (.mv cF)] (sR [fD 5 0 1,lD 6 1 5,oP 7 (.call 131 [.t 6]),mV 3 7] (.seq (sR [fD 8 0 1,lD 9 1 8,oP 10 (.call 89 [.t 9]),oP 11 (.un .not (.t 10)),mV 12 11,gF 13 12 (.mv (.t 3)),gF 14 12 (.len (.t 13)),gF 15 12 (.fad 1 (.t 1)),gF 16 12 (.ld 1 false (.t 15)),gF 17 12 (.len (.t 16)),gF 18 12 (.bin .neq (.t 14) (.t 17)),pT 19 12 18] (cD 19 (sR [oP 2 (.mv cF)] .ret) .skip)) (.seq (sR [oP 4 (.mv (.c i0))] (.block 0 (.loop (.seq (sR [mV 20 4,mV 21 3,oP 22 (.len (.t 21)),bN 23 .lss 20 22] (cD 23 .skip (.exit 0))) (.seq (.block 1 (.seq (.drw [0,1,0,7,15,31,0,0,192,448,960,2047,4095,8191,16383,8191,65535,131071,262143,524287,1048575,2097151,4194303,8388607,16777215,8388607,67108863,134217727,268435455,536870911,1073741823,2147483647,4294967295,8589934591,4294967295,34359738367,68719476735,137438953471,274877906943,549755813887,1099511627775] [(0,fD 26 1 1),(1,lD 27 1 26),(2,mV 28 4),(3,oP 29 (.iad 2 (.t 27) (.t 28))),(4,fD 30 0 29),(5,lD 31 1 30),(6,mV 32 3),(7,mV 33 4),(8,oP 34 (.iad 4 (.t 32) (.t 33))),(9,fD 35 0 34),(10,lD 36 1 35),(11,bN 37 .neq 31 36),(12,mV 38 37),(13,gF 39 38 (.fad 1 (.t 1))),(14,gF 40 38 (.ld 1 false (.t 39))),(15,gF 41 38 (.mv (.t 4))),(16,gF 42 38 (.iad 2 (.t 40) (.t 41))),(17,gF 43 38 (.fad 1 (.t 42))),(18,gF 44 38 (.ld 1 false (.t 43))),(19,gF 45 38 (.lens (.t 44))),(20,gF 46 38 (.bin .gtr (.t 45) (cI 6))),(21,pT 47 38 46),(22,mV 48 47),(23,gF 49 48 (.fad 1 (.t 1))),(24,gF 50 48 (.ld 1 false (.t 49))),(25,gF 51 48 (.mv (.t 4))),(26,gF 52 48 (.iad 2 (.t 50) (.t 51))),(27,gF 53 48 (.fad 1 (.t 52))),(28,gF 54 48 (.ld 1 false (.t 53))),(29,gF 55 48 (.bin .eql (.t 54) (.c s0))),(30,pT 56 48 55),(31,mV 57 56),(32,gF 58 57 (.fad 1 (.t 1))),(33,gF 59 57 (.ld 1 false (.t 58))),(34,gF 60 57 (.mv (.t 4))),(35,gF 61 57 (.iad 2 (.t 59) (.t 60))),(36,gF 62 57 (.fad 1 (.t 61))),(37,gF 63 57 (.ld 1 false (.t 62))),(38,gF 64 57 (.call 89 [.t 63])),(39,gF 65 57 (.un .not (.t 64))),(40,pT 66 57 65)]) (cD 66 (sR [oP 2 (.mv cF)] .ret) .skip))) (.reg [mV 24 4,oP 25 (.bin .add (.t 24) (cI 1)),mV 4 25])))))) (sR [oP 2 (.mv cT)] .ret))))
theorem dg93:Dg Tryz.prog 93 Tryz.f93 ic93 [(.t 2)]:=⟨Tryz.func93,by kernel_rfl,by kernel_rfl⟩
theorem c93 (s:Strm) (h:SB s):FnR Tryz.prog G 93 [.agg [.str s.inn,.sl 2 (s.parts.map Part.row)]] (.bool (strmOk s)):=by
 refine mF dg93 Tryz.ntmps93 ?_
 obtain⟨h1,h2,h3⟩:=h
 simp only[ic93,go_sem]
 have hp:=q22 s.inn
 have hpe:txOk s.inn=true→q1b s.inn=pieces s.inn:=λh=>by simp[q1b,h]
 refine q0m (c131 s.inn) rfl rfl ?_
 simp only[go_sem]
 refine q0m (c89 s.inn) rfl rfl ?_
 simp only[go_sem]
 cases ht:txOk s.inn<;>simp only[go_sem]
 ·simp[strmOk,ht]
 have hpe:=hpe ht
 rw[hpe] at hp ⊢
 generalize hq:pieces s.inn=q at *
 have hso:strmOk s=q0r s.parts q:=by simp[strmOk,ht,hq]
 with_reducible repeat' (first|refine br ?_ ?_<;>intro h e<;>(try simp only[e,go_sem])<;>clear e|rw[q00 (by omega)]|refine sd ?_<;>try simp only[go_sem]|fail)
 ·have hlen:s.parts.length=q.length:=by omega
  refine q0d (λi:Nat=>⟨q0e [(1,.pv 3000001 0),(3,.sl 4 (q.map Pc.row)),(4,.int .i64 (i:Int))],q01 [(3000001,.var 128 [.str s.inn,.sl 2 (s.parts.map Part.row)])]⟩) (λi=>q.length - i) (λi=>i≤q.length∧q0r s.parts q=q0r (s.parts.drop i) (q.drop i)) 0 (leQ []) ⟨Nat.zero_le _,by simp⟩ ?_
  intro i ⟨hi,ha⟩
  simp only[go_sem]
  by_cases hil:(i:Int)<q.length
  ·have hst:=q7b (show i<s.parts.length by omega) hlen
   have htx:(s.parts.getD i default).text.length≤2000000:=by
    have:s.parts.getD i default=s.parts[i]'(by omega):=by simp[List.getD,show i<s.parts.length by omega]
    rw[this];exact h3 _ (List.getElem_mem _)
   simp only[eq_true hil,go_sem]
   with_reducible repeat' (first|rw[q00 (by omega)];try simp only[go_sem]|refine br ?_ ?_<;>intro h e<;>(try simp only[e,go_sem])<;>clear e|refine sd ?_<;>try simp only[go_sem]|(first|refine cr (c89 ..) ?_)<;>try simp only[go_sem]|fail)
   ·rw[hso,ha,hst]
    cases hok:q4u (s.parts.getD i default) (q.getD i default) with
    | false=>rfl
    | true=>have:=(q29.1 hok).1;rw[this] at h;simp at h
   ·rw[hso,ha,hst]
    cases hok:q4u (s.parts.getD i default) (q.getD i default) with
    | false=>rfl
    | true=>have:=(q29.1 hok).2.1;omega
   ·rw[hso,ha,hst]
    cases hok:q4u (s.parts.getD i default) (q.getD i default) with
    | false=>rfl
    | true=>have:=(q29.1 hok).2.1;rw[h] at this;simp at this
   ·refine⟨i+1,by omega,⟨by omega, ?_⟩,(leQ [])⟩
    rename_i g1 g2 g3
    have hok:q4u (s.parts.getD i default) (q.getD i default)=true:=q29.2 ⟨by simpa using g1,⟨List.length_pos_iff.2 g3,by omega⟩,h⟩
    rw[ha,hst,hok,Bool.true_and]
   ·rw[hso,ha,hst]
    cases hok:q4u (s.parts.getD i default) (q.getD i default) with
    | false=>rfl
    | true=>have:=(q29.1 hok).2.2;rw[this] at h;cases h
  ·simp only[eq_false hil,go_sem]
   have:i=q.length:=by omega
   subst this
   rw[hso,ha,List.drop_length,←hlen,List.drop_length];rfl
 ·rw[hso,q9z (by omega)]
end Go.Proofs.YtpppoklkijmeoaaGreatDoor.W
namespace Go.Proofs.YtpppoklkijmeoaaGreatDoor.W
open Go Go.RowKit Go.Proofs Go.Proofs.YtpppoklkijmeoaaGreatDoor.VL Go.Proofs.YtpppoklkijmeoaaGreatDoor.M Go.ChangeShapes Go.WideShapes
theorem q71:laidOutB Tryz.prog=true:=by kernel_rfl
theorem mapF:mapsRowed Tryz.prog=true:=by kernel_rfl
theorem mayF:Tryz.prog.mayEnter=true:=by kernel_rfl
theorem stoF:Tryz.prog.stopsHeard=true:=by kernel_rfl
theorem lifF:(Rows.fnExactWorldCalmRow.lifted==Tryz.prog.liftsFinal)=true:=by kernel_rfl
theorem pkeF:(Rows.fnExactWorldCalmRow.plainKeys==Tryz.prog.plainKeys)=true:=by kernel_rfl
theorem makF:(Tryz.prog.make==some Rows.fnExactWorldCalmRow.make)=true:=by kernel_rfl
theorem own:ownKnob Tryz.prog.godebug=none:=by kernel_rfl
def noO:Nat→Prop:=λ_=>False
def noH:Nat→Hs:=λ_=>.fresh
def noρ:Nat→VL.Loc:=λ_=>default
theorem noB (W:World):owns ⟨W,blocks noρ (chH []),λ_=>False,0,noρ⟩ noρ (chH [])=noO:=by
 funext b
 apply propext
 constructor
 ·rintro(h|⟨c,h,_⟩)
  ·exact h
  ·simp[chH,Hs.live] at h
 ·intro h;exact h.elim
theorem FnR.calls {P:Program} {G:Glob} {f:FuncId} {vs:List V} {b:Bool} (F:FnR P G f vs (.bool b)) {W:World} {us:List Value} (hg:G.g W) (ha:DenArgs W noO noρ noH vs us) :
 Calls P f us.toArray W λe W'=>e=.returned (.bool b)∧Below W.heap.size W W':=by
 have hc:chH []=noH:=by funext x;simp[chH,noH]
 have nl:∀c,(noH c).live=true→False:=λc h=>by cases h
 have hb:∀b,¬blocks noρ (chH []) b:=λb ⟨c,h,_⟩=>by rw[hc] at h;exact nl c h
 refine(F.run W noρ (λ_=>False) us hg (λb h=>h.elim) (λb h=>h.elim) (λb h=>(hb b h).elim) ⟨rfl,rfl,rfl,Nat.le_refl _,λ_ _ _=>rfl,λc=>(by rw[hc];trivial),λc h=>(by rw[hc] at h;exact(nl c h).elim),λc c' h=>(by rw[hc] at h;exact(nl c h).elim),λi hi=>absurd hi (Nat.not_lt_zero _)⟩ (by rw[noB,hc];exact ha)).mono λe W' hp=>?_
 obtain⟨u,res,out,ρ',rfl,⟨rfl,rfl⟩,r,hd⟩:=hp
 refine⟨by rw[q6r hd],r.os,r.tape,r.output,r.grow,λk hk=>r.keep k hk (hb k)⟩
theorem gES:Tryz.prog.globalNamed "strconv.ErrSyntax"=some 1:=by kernel_rfl
theorem gER:Tryz.prog.globalNamed "strconv.ErrRange"=some 2:=by kernel_rfl
theorem gESt:(Tryz.prog.globals[1]?).map (·.type)=some 236:=by kernel_rfl
theorem gERt:(Tryz.prog.globals[2]?).map (·.type)=some 236:=by kernel_rfl
theorem qt1 (u:TypeId) (h:Tryz.prog.typeName? 3 u=some "*errors.errorString"):u=275 :=
 typeName_ptr_named (nm:= "errors.errorString") (by kernel_rfl) (by kernel_rfl) (by decide) u h
theorem gOk {l:List (String×DataW Unit)} {W:World} (hl:l=Rows.fnExactWorldCalmRow.laid) (hL:laidMetH Tryz.prog l W) (hs:W.ShapedOpen Tryz.prog):G.g W:=by
 subst hl
 rw[MakeChecks.laidMetH_plain _ _ _ (by kernel_rfl)] at hL
 obtain⟨a0,s0,hv0,-,-,-⟩:=laid_sentinel hL.tail.tail.tail gER gERt Tryz.underlying236 qt1 Tryz.underlying275 Tryz.underlying277 rfl rfl Tryz.underlying9 (by kernel_rfl) (by kernel_rfl)
 obtain⟨a1,s1,hv1,-,-,-⟩:=laid_sentinel hL.tail.tail.tail.tail gES gESt Tryz.underlying236 qt1 Tryz.underlying275 Tryz.underlying277 rfl rfl Tryz.underlying9 (by kernel_rfl) (by kernel_rfl)
 refine⟨cell_of_shapedOpen_int (t:=3) (zero:=#[.int .i64 0]) hs (of_decide_eq_true (by kernel_rfl)) (by kernel_rfl) rfl (by kernel_rfl) (by kernel_rfl) Tryz.underlying3, ?_, ?_⟩
 ·exact⟨_,by have h0:=World.var?_cell gES hv1 0;simpa using h0,.inr ⟨_,_,rfl⟩⟩
 ·exact⟨_,by have h0:=World.var?_cell gER hv0 0;simpa using h0,.inr ⟨_,_,rfl⟩⟩
theorem q5g {H:Type} {enc:TypeId×Value→H} {C:Checked} {os:Os} {f:FuncId} {fn:Func} {s:OpenSpec} {conds:List PathCond} {apart:Bool} {laid:List (String×DataW Unit)} (w0:World) (args:Array Value) (hos:w0.os=os)
 (hsh:(w0.forCall (λ_ _=>0) ⟨#[],args,[]⟩).Shaped C.prog) (hok:Input.okWideB C.prog (w0.forCall (λ_ _=>0) ⟨#[],args,[]⟩) f ⟨#[],args,[]⟩=true)
 (hrow:s.preRow enc C.prog fn conds apart laid (w0.forCall (λ_ _=>0) ⟨#[],args,[]⟩).memory args) :
 ∃(w:World) (tape:Tape) (i:Input),w.os=os∧(w.forCall tape i).Shaped C.prog∧i.vars=[]∧Input.okWide C.prog (w.forCall tape i) .any w.heap.size f i ∧
  s.preRow enc C.prog fn conds apart laid (w.forCall tape i).memory i.args∧({ modest:=false }:Assume).holds C.prog (lone (Frame.enter C.prog f i.args .normal) [] (w.forCall tape i)) :=
 ⟨w0,λ_ _=>0,⟨#[],args,[]⟩,hos,hsh,(Input.okWide_of_okWideB (base:=0) hok).1,(Input.okWide_of_okWideB hok).2,hrow,by
   simp only[Assume.holds]
   exact⟨by simp,by simp,by simp,by simp,by simp⟩⟩
end Go.Proofs.YtpppoklkijmeoaaGreatDoor.W
namespace Go.Proofs.YtpppoklkijmeoaaGreatDoor.W
open Go Go.RowKit Go.Proofs Go.Proofs.YtpppoklkijmeoaaGreatDoor.VL Go.Proofs.YtpppoklkijmeoaaGreatDoor.M
def ic59:IC:=sR [oP 1 (.box 54 (.t 0)),oP 2 (.mv cF)] (.seq (sR [fD 3 1 1,lA 4 2 3,oP 5 (.call 110 [.t 4]),oP 6 (.un .not (.t 5)),mV 7 6,gF 8 7 (.fad 3 (.t 1)),gF 9 7 (.ld 2 true (.t 8)),gF 10 7 (.call 110 [.t 9]),gF 11 7 (.un .not (.t 10)),pT 12 7 11,mV 13 12,gF 14 13 (.fad 5 (.t 1)),gF 15 13 (.ld 1 false (.t 14)),gF 16 13 (.call 27 [.t 15,.c i0,cI 99]),gF 17 13 (.un .not (.t 16)),pT 18 13 17] (cD 18 (sR [oP 2 (.mv cF)] .ret) .skip)) (sR [fD 19 0 1,lD 20 1 19,oP 21 (.bin .eql (.t 20) (cI 1)),mV 22 21,gT 23 22 (.fad 6 (.t 1)),gT 24 22 (.ld 1 false (.t 23)),gT 25 22 (.call 111 [.t 24]),pF 26 22 25,mV 27 26,gT 28 27 (.fad 6 (.t 1)),gT 29 27 (.ld 1 false (.t 28)),gT 30 27 (.bin .neq (.t 29) (.c s0)),pF 31 27 30,mV 32 31,gF 33 32 (.fad 0 (.t 1)),gF 34 32 (.ld 1 false (.t 33)),gF 35 32 (.bin .eql (.t 34) (cI 2)),gF 36 32 (.mv (.t 35)),gT 37 36 (.fad 6 (.t 1)),gT 38 36 (.ld 1 false (.t 37)),gT 39 36 (.bin .eql (.t 38) (.c s0)),gF 40 32 (.pick (.t 36) (.t 39) cF),pT 41 32 40,mV 2 41] .ret))
theorem dg59:Dg Tryz.prog 59 Tryz.f59 ic59 [(.t 2)]:=⟨Tryz.func59,by kernel_rfl,by kernel_rfl⟩
theorem isE (s:B):List.isEmpty s=decide (s=[]):=by cases s<;>simp
theorem c59 (p:Pk) (h:p.text.length≤2000000):FnR Tryz.prog G 59 [.agg [.int .i64 p.kind,.int .i64 p.frm.a,.int .i64 p.frm.p,.int .i64 p.to.a,.int .i64 p.to.p,.int .i64 p.at_,.str p.text]] (.bool (qbm p)):=by
 refine mF dg59 Tryz.ntmps59 ?_
 simp only[ic59,go_sem]
 with_reducible repeat' (first|refine br ?_ ?_<;>intro h e<;>(try simp only[e,go_sem])<;>clear e|rw[q00 (by omega)]|refine sd ?_<;>try simp only[go_sem]|(first|refine cr (c110 ..) ?_|refine cr (c27 ..) ?_|refine cr (qpd ..) ?_)<;>try simp only[go_sem]|fail)
 all_goals simp_all[qbm,isE]
def ic46:IC:=sR [oP 1 (.box 54 (.t 0)),oP 2 (.mv cF)] (.seq (sR [fD 3 1 1,lA 4 2 3,oP 5 (.call 88 [.t 4]),oP 6 (.un .not (.t 5)),mV 7 6,gF 8 7 (.fad 3 (.t 1)),gF 9 7 (.ld 2 true (.t 8)),gF 10 7 (.call 88 [.t 9]),gF 11 7 (.un .not (.t 10)),pT 12 7 11,mV 13 12,gF 14 13 (.fad 5 (.t 1)),gF 15 13 (.ld 1 false (.t 14)),gF 16 13 (.call 20 [.t 15,.c i0,cI 99]),gF 17 13 (.un .not (.t 16)),pT 18 13 17] (cD 18 (sR [oP 2 (.mv cF)] .ret) .skip)) (.seq (sR [fD 19 0 1,lD 20 1 19] (.block 0 (sR [oP 22 (.bin .eql (.t 20) (cI 1)),mV 21 22] (cD 21 (sR [fD 23 6 1,lD 24 1 23,oP 25 (.call 89 [.t 24]),mV 26 25,gT 27 26 (.fad 6 (.t 1)),gT 28 26 (.ld 1 false (.t 27)),gT 29 26 (.bin .neq (.t 28) (.c s0)),pF 30 26 29,mV 2 30] .ret) (sR [oP 32 (.bin .eql (.t 20) (cI 2)),mV 31 32] (cD 31 (sR [fD 33 6 1,lD 34 1 33,oP 35 (.bin .eql (.t 34) (.c s0)),mV 2 35] .ret) .skip)))))) (sR [oP 2 (.mv cF)] .ret)))
theorem dg46:Dg Tryz.prog 46 Tryz.f46 ic46 [(.t 2)]:=⟨Tryz.func46,by kernel_rfl,by kernel_rfl⟩
theorem c46 (p:Pk) (h:p.text.length≤2000000):FnR Tryz.prog G 46 [.agg [.int .i64 p.kind,.int .i64 p.frm.a,.int .i64 p.frm.p,.int .i64 p.to.a,.int .i64 p.to.p,.int .i64 p.at_,.str p.text]] (.bool (qbm p)):=by
 refine mF dg46 Tryz.ntmps46 ?_
 simp only[ic46,go_sem]
 with_reducible repeat' (first|refine br ?_ ?_<;>intro h e<;>(try simp only[e,go_sem])<;>clear e|rw[q00 (by omega)]|refine sd ?_<;>try simp only[go_sem]|(first|refine cr (c88 ..) ?_|refine cr (c20 ..) ?_|refine cr (c89 ..) ?_)<;>try simp only[go_sem]|fail)
 all_goals simp_all[qbm,isE]
def qsx:IC:=sR [oP 1 (.box 54 (.t 0)),oP 2 (.mv cF)] (sR [fD 3 1 1,lA 4 2 3,oP 5 (.call 121 [.t 4]),mV 6 5,gT 7 6 (.fad 3 (.t 1)),gT 8 6 (.ld 2 true (.t 7)),gT 9 6 (.call 106 [.t 8]),pF 10 6 9,mV 2 10] .ret)
theorem dg146:Dg Tryz.prog 146 Tryz.f146 qsx [(.t 2)]:=⟨Tryz.func146,by kernel_rfl,by kernel_rfl⟩
theorem c146 (p:Pk):FnR Tryz.prog G 146 [.agg [.int .i64 p.kind,.int .i64 p.frm.a,.int .i64 p.frm.p,.int .i64 p.to.a,.int .i64 p.to.p,.int .i64 p.at_,.str p.text]] (.bool p.outward):=by
 refine mF dg146 Tryz.ntmps146 ?_
 simp only[qsx,go_sem]
 with_reducible repeat' (first|refine br ?_ ?_<;>intro h e<;>(try simp only[e,go_sem])<;>clear e|rw[q00 (by omega)]|refine sd ?_<;>try simp only[go_sem]|(first|refine cr (qs4 ..) ?_|refine cr (qyt ..) ?_)<;>try simp only[go_sem]|fail)
 all_goals simp_all[Pk.outward]
def ic86:IC:=sR [oP 1 (.box 54 (.t 0)),oP 2 (.mv cF)] (sR [fD 3 1 1,lA 4 2 3,oP 5 (.call 106 [.t 4]),mV 6 5,gT 7 6 (.fad 3 (.t 1)),gT 8 6 (.ld 2 true (.t 7)),gT 9 6 (.call 114 [.t 8]),pF 10 6 9,mV 2 10] .ret)
theorem dg86:Dg Tryz.prog 86 Tryz.f86 ic86 [(.t 2)]:=⟨Tryz.func86,by kernel_rfl,by kernel_rfl⟩
theorem c86 (p:Pk):FnR Tryz.prog G 86 [.agg [.int .i64 p.kind,.int .i64 p.frm.a,.int .i64 p.frm.p,.int .i64 p.to.a,.int .i64 p.to.p,.int .i64 p.at_,.str p.text]] (.bool p.inward):=by
 refine mF dg86 Tryz.ntmps86 ?_
 simp only[ic86,go_sem]
 with_reducible repeat' (first|refine br ?_ ?_<;>intro h e<;>(try simp only[e,go_sem])<;>clear e|rw[q00 (by omega)]|refine sd ?_<;>try simp only[go_sem]|(first|refine cr (qyt ..) ?_|refine cr (qjb ..) ?_)<;>try simp only[go_sem]|fail)
 all_goals simp_all[Pk.inward]
def ic94:IC:=sR [oP 4 (.box 52 (.t 1)),oP 5 (.box 52 (.t 2)),oP 6 (.mv (.c i0))] (.seq (sR [oP 7 (.mv (.c i0))] (.block 0 (.loop (.seq (sR [mV 8 7,mV 9 0,oP 10 (.len (.t 9)),bN 11 .lss 8 10] (cD 11 .skip (.exit 0))) (.seq (.block 1 (.seq (.drw [0,0,3,7,15,0,63,127,255,255,1023,2047,4095,255,16383,32767] [(0,mV 14 0),(1,mV 15 7),(2,oP 16 (.iad 8 (.t 14) (.t 15))),(3,fD 17 0 16),(4,lA 18 2 17),(5,lA 19 2 4),(6,oP 20 (.eqs false [.i,.i] (.t 18) (.t 19))),(7,mV 21 20),(8,gT 22 21 (.mv (.t 0))),(9,gT 23 21 (.mv (.t 7))),(10,gT 24 21 (.iad 8 (.t 22) (.t 23))),(11,gT 25 21 (.fad 2 (.t 24))),(12,gT 26 21 (.ld 2 true (.t 25))),(13,gT 27 21 (.ld 2 true (.t 5))),(14,gT 28 21 (.eqs false [.i,.i] (.t 26) (.t 27))),(15,pF 29 21 28)]) (cD 29 (sR [mV 30 7,mV 6 30] .ret) .skip))) (.reg [mV 12 7,oP 13 (.bin .add (.t 12) (cI 1)),mV 7 13])))))) (sR [oP 6 (.mv (.c (.int .i64 (-1))))] .ret))
theorem dg94:Dg Tryz.prog 94 Tryz.f94 ic94 [(.t 6)]:=⟨Tryz.func94,by kernel_rfl,by kernel_rfl⟩
theorem c94 (fs:List Flw) (i o:E) (hl:fs.length≤2000000):FnR Tryz.prog G 94 [.sl 8 (fs.map Flw.row),.agg [.int .i64 i.a,.int .i64 i.p],.agg [.int .i64 o.a,.int .i64 o.p]] (.int .i64 (ixI (q0y fs i o))):=by
 refine mF dg94 Tryz.ntmps94 ?_
 simp only[ic94,go_sem]
 refine q0d (λk:Nat=>⟨q0e [(0,.sl 8 (fs.map Flw.row)),(4,.pv 3000004 0),(5,.pv 3000005 0),(7,.int .i64 (k:Int))],q01 [(3000004,.var 52 [.int .i64 i.a,.int .i64 i.p]),(3000005,.var 52 [.int .i64 o.a,.int .i64 o.p])]⟩) (λk=>fs.length - k)
  (λk=>k≤fs.length∧q0y fs i o=(q0y (fs.drop k) i o).map (·+k)) 0 (leQ []) ⟨Nat.zero_le _,by simp⟩ ?_
 intro k ⟨hk,ha⟩
 simp only[go_sem]
 by_cases h:(k:Int)<fs.length
 ·have hil:k<fs.length:=by omega
  have hg:fs.getD k default=fs[k]:=by simp[List.getD,hil]
  rw[List.drop_eq_getElem_cons hil,q2q] at ha
  simp only[eq_true h,go_sem]
  with_reducible repeat' (first|refine br ?_ ?_<;>intro h e<;>(try simp only[e,go_sem,hg,E.ext_iff'])<;>clear e|rw[q00 (by omega)]|refine sd ?_<;>try simp only[go_sem,hg,E.ext_iff']|fail)
  ·rw[if_pos ⟨by assumption,h⟩] at ha
   rw[ha];simp[ixI]
  ·rw[if_neg (λhc=>h hc.2)] at ha
   refine⟨k+1,by omega,⟨by omega,by rw[ha];cases q0y (fs.drop (k+1)) i o<;>simp;omega⟩,(leQ [])⟩
  ·rw[if_neg (λhc=>h hc.1)] at ha
   refine⟨k+1,by omega,⟨by omega,by rw[ha];cases q0y (fs.drop (k+1)) i o<;>simp;omega⟩,(leQ [])⟩
 ·simp only[eq_false h,go_sem]
  have:k=fs.length:=by omega
  subst this
  rw[ha,List.drop_length];rfl
def qxd:IC:=sR [oP 3 (.box 130 (.t 0)),oP 4 (.mv cF)] (sR [fD 5 0 3,lA 6 2 5,lA 7 2 1,oP 8 (.eqs false [.i,.i] (.t 6) (.t 7)),mV 9 8,gT 10 9 (.fad 2 (.t 3)),gT 11 9 (.ld 2 true (.t 10)),gT 12 9 (.ld 2 true (.t 2)),gT 13 9 (.eqs false [.i,.i] (.t 11) (.t 12)),pF 14 9 13,mV 4 14] .ret)
theorem dg137:Dg Tryz.prog 137 Tryz.f137 qxd [(.t 4)]:=⟨Tryz.func137,by kernel_rfl,by kernel_rfl⟩
theorem c137 (f:Flw) (i o:E):FnR Tryz.prog G 137 [.agg [.int .i64 f.ins.a,.int .i64 f.ins.p,.int .i64 f.out.a,.int .i64 f.out.p,.str f.up.inn,.sl 2 (f.up.parts.map Part.row),.str f.down.inn,.sl 2 (f.down.parts.map Part.row)],.iptr [.int .i64 i.a,.int .i64 i.p] 0,.iptr [.int .i64 o.a,.int .i64 o.p] 0] (.bool (decide (f.ins=i)&&decide (f.out=o))):=by
 refine mF dg137 Tryz.ntmps137 ?_
 simp only[qxd,go_sem,E.ext_iff']
 with_reducible repeat' (first|refine br ?_ ?_<;>intro h e<;>(try simp only[e,go_sem,E.ext_iff'])<;>clear e|rw[q00 (by omega)]|refine sd ?_<;>try simp only[go_sem,E.ext_iff']|fail)
 all_goals simp_all
def qtt:IC:=sR [oP 4 (.mv (.c i0))] (.seq (sR [mV 6 0,oP 7 (.len (.t 6)),oP 8 (.mv (.c i0))] (.block 0 (.loop (sR [bN 9 .lss 8 7] (.seq (cD 9 .skip (.exit 0)) (.seq (.block 1 (sR [mV 10 8,mV 5 10] (sR [mV 11 1,mV 12 0,mV 13 5,oP 14 (.iad 8 (.t 12) (.t 13)),lA 15 8 14,oP 16 (.cal (.t 11) [.t 15])] (cD 16 (sR [mV 17 5,mV 4 17] .ret) .skip)))) (.reg [oP 18 (.bin .add (.t 8) (cI 1)),mV 8 18]))))))) (sR [oP 4 (.mv (.c (.int .i64 (-1))))] .ret))
theorem dg136:Dg Tryz.prog 136 Tryz.f136 qtt [(.t 4)]:=⟨Tryz.func136,by kernel_rfl,by kernel_rfl⟩
theorem c136 (fs:List Flw) (i o:E) (hl:fs.length≤2000000):FnR Tryz.prog G 136 [.sl 8 (fs.map Flw.row),.fn 137 [.iptr [.int .i64 i.a,.int .i64 i.p] 0,.iptr [.int .i64 o.a,.int .i64 o.p] 0]] (.int .i64 (ixI (q0y fs i o))):=by
 refine mF dg136 Tryz.ntmps136 ?_
 simp only[qtt,go_sem]
 refine q0d (λk:Nat=>⟨q0e [(0,.sl 8 (fs.map Flw.row)),(1,.fn 137 [.iptr [.int .i64 i.a,.int .i64 i.p] 0,.iptr [.int .i64 o.a,.int .i64 o.p] 0]),(7,.int .i64 fs.length),(8,.int .i64 (k:Int))],q01 []⟩) (λk=>fs.length - k)
  (λk=>k≤fs.length∧q0y fs i o=(q0y (fs.drop k) i o).map (·+k)) 0 (leQ []) ⟨Nat.zero_le _,by simp⟩ ?_
 intro k ⟨hk,ha⟩
 simp only[go_sem]
 by_cases h:(k:Int)<fs.length
 ·have hil:k<fs.length:=by omega
  have hg:fs.getD k default=fs[k]:=by simp[List.getD,hil]
  rw[List.drop_eq_getElem_cons hil,q2q] at ha
  simp only[eq_true h,go_sem]
  with_reducible repeat' (first|refine br ?_ ?_<;>intro h e<;>(try simp only[e,go_sem,hg])<;>clear e|rw[q00 (by omega)]|refine sd ?_<;>try simp only[go_sem,hg]|fail)
  refine q0m (c137 fs[k] i o) rfl rfl ?_
  simp only[go_sem]
  by_cases hc:fs[k].ins=i∧fs[k].out=o
  ·rw[if_pos hc] at ha
   simp only[hc,go_sem]
   rw[ha];simp[ixI]
  ·rw[if_neg hc] at ha
   have:(decide (fs[k].ins=i)&&decide (fs[k].out=o))=false:=by
    rw[←Bool.decide_and];simpa using hc
   simp only[this,go_sem]
   with_reducible repeat' (first|refine br ?_ ?_<;>intro h e<;>(try simp only[e,go_sem])<;>clear e|rw[q00 (by omega)]|refine sd ?_<;>try simp only[go_sem]|fail)
   refine⟨k+1,by omega,⟨by omega,by rw[ha];cases q0y (fs.drop (k+1)) i o<;>simp;omega⟩,(leQ [])⟩
 ·simp only[eq_false h,go_sem]
  have:k=fs.length:=by omega
  subst this
  rw[ha,List.drop_length];rfl
theorem q5z (f a b:Nat):qn2 f [.pv a b]=some (.fn f [.pv a b]):=qr4 rfl
theorem qoh (f a b c d:Nat):qn2 f [.pv a b,.pv c d]=some (.fn f [.pv a b,.pv c d]):=qr4 rfl
def qzx:IC:=sR [oP 3 (.box 35 (.t 0)),oP 4 (.box 52 (.t 1)),oP 5 (.box 52 (.t 2)),oP 6 (.mv (.c i0))] (sR [fD 7 1 3,lD 8 1 7,oP 9 (.mkf 137 [.t 4,.t 5]),oP 10 (.call 136 [.t 8,.t 9]),mV 6 10] .ret)
theorem dg107:Dg Tryz.prog 107 Tryz.f107 qzx [(.t 6)]:=⟨Tryz.func107,by kernel_rfl,by kernel_rfl⟩
theorem c107 (rows:List (List V)) (fs:List Flw) (i o:E) (hl:fs.length≤2000000):FnR Tryz.prog G 107 [.agg [.sl 3 rows,.sl 8 (fs.map Flw.row)],.agg [.int .i64 i.a,.int .i64 i.p],.agg [.int .i64 o.a,.int .i64 o.p]] (.int .i64 (ixI (q0y fs i o))):=by
 refine mF dg107 Tryz.ntmps107 ?_
 simp only[qzx,go_sem,qoh]
 refine q34 (c136 fs i o hl) [3000004,3000005] true (by simp only[go_sem,List.mem_cons,true_or,or_true]) (by simp only[List.mem_cons,List.not_mem_nil,or_false];rintro c (rfl|rfl)<;>rfl) rfl (.inl rfl) ?_
 simp only[go_sem]
def ic56:IC:=sR [oP 1 (.box 35 (.t 0)),oP 2 (.mv cF)] (.seq (sR [fD 5 0 1,lD 6 1 5,oP 7 (.call 104 [.t 6]),oP 8 (.un .not (.t 7)),mV 9 8,gF 10 9 (.fad 1 (.t 1)),gF 11 9 (.ld 1 false (.t 10)),gF 12 9 (.len (.t 11)),gF 13 9 (.bin .gtr (.t 12) (cI 4)),pT 14 9 13] (cD 14 (sR [oP 2 (.mv cF)] .ret) .skip)) (.seq (sR [fD 15 1 1,lD 16 1 15,oP 17 (.len (.t 16)),oP 18 (.mv (.c i0))] (.block 0 (.loop (sR [bN 19 .lss 18 17] (.seq (cD 19 .skip (.exit 0)) (.seq (.block 1 (sR [mV 20 18,oP 21 (.iad 8 (.t 16) (.t 18)),lA 22 8 21,oP 4 (.alloc 130 [i0,i0,i0,i0,s0,.nils,s0,.nils]),mV 3 20,nP (.sto 8 (.t 4) (.t 22))] (sR [fD 23 0 1,lD 24 1 23,fD 25 0 4,lA 26 2 25,oP 27 (.call 105 [.t 24,.t 26]),oP 28 (.bin .eql (.t 27) (.c i0)),mV 29 28,gF 30 29 (.fad 2 (.t 4)),gF 31 29 (.ld 2 true (.t 30)),gF 32 29 (.call 106 [.t 31]),gF 33 29 (.un .not (.t 32)),pT 34 29 33,mV 35 34,gF 36 35 (.ld 2 true (.t 1)),gF 37 35 (.fad 0 (.t 4)),gF 38 35 (.ld 2 true (.t 37)),gF 39 35 (.fad 2 (.t 4)),gF 40 35 (.ld 2 true (.t 39)),gF 41 35 (.call 107 [.t 36,.t 38,.t 40]),gF 42 35 (.mv (.t 3)),gF 43 35 (.bin .neq (.t 41) (.t 42)),pT 44 35 43,mV 45 44,gF 46 45 (.fad 4 (.t 4)),gF 47 45 (.ld 2 true (.t 46)),gF 48 45 (.call 108 [.t 47]),gF 49 45 (.un .not (.t 48)),pT 50 45 49,mV 51 50,gF 52 51 (.fad 6 (.t 4)),gF 53 51 (.ld 2 true (.t 52)),gF 54 51 (.call 108 [.t 53]),gF 55 51 (.un .not (.t 54)),pT 56 51 55] (cD 56 (sR [oP 2 (.mv cF)] .ret) .skip)))) (.reg [oP 57 (.bin .add (.t 18) (cI 1)),mV 18 57]))))))) (sR [oP 2 (.mv cT)] .ret)))
theorem dg56:Dg Tryz.prog 56 Tryz.f56 ic56 [(.t 2)]:=⟨Tryz.func56,by kernel_rfl,by kernel_rfl⟩
theorem c56 (d:Door) (h:DB d):FnR Tryz.prog G 56 [.agg [.sl 3 (d.map.map Pair.row),.sl 8 (d.flows.map Flw.row)]] (.bool (doorOk d)):=by
 refine mF dg56 Tryz.ntmps56 ?_
 obtain⟨h1,h2,h3⟩:=h
 simp only[ic56,go_sem]
 refine q0m (c104 d.map h1) rfl rfl ?_
 cases hm:mapOk d.map<;>simp only[go_sem]
 ·simp[doorOk,hm]
 obtain⟨hp,hml⟩:=q0b hm
 with_reducible repeat' (first|refine br ?_ ?_<;>intro h e<;>(try simp only[e,go_sem])<;>clear e|rw[q00 (by omega)]|refine sd ?_<;>try simp only[go_sem]|fail)
 ·have:¬d.flows.length≤4:=by omega
  simp[doorOk,this]
 refine q0d (λk:Nat=>⟨q0e [(1,.pv 3000001 0),(16,.sl 8 (d.flows.map Flw.row)),(17,.int .i64 d.flows.length),(18,.int .i64 (k:Int))],q01 [(3000001,.var 35 [.sl 3 (d.map.map Pair.row),.sl 8 (d.flows.map Flw.row)])]⟩) (λk=>d.flows.length - k)
  (λk=>k≤d.flows.length∧∀j,j<k→q5m d j=true) 0 (leQ []) ⟨Nat.zero_le _,by omega⟩ ?_
 intro k ⟨hk,ha⟩
 simp only[go_sem]
 by_cases h:(k:Int)<d.flows.length
 ·have hil:k<d.flows.length:=by omega
  have hg:d.flows.getD k default=d.flows[k]:=by simp[List.getD,hil]
  have hok:=q7r hil
  obtain⟨hs1,hs2⟩:=h3 _ (List.getElem_mem hil)
  have hz:=qd3 (λp h=>by have:=(hp p h).1;omega) d.flows[k].ins
  have hix:ixI (q0y d.flows d.flows[k].ins d.flows[k].out)=k↔(d.flows.take k).any (q30 d.flows[k].ins d.flows[k].out)=false:=by
   constructor
   ·intro hx
    cases hf:q0y d.flows d.flows[k].ins d.flows[k].out with
    | none=>rw[hf] at hx;simp[ixI] at hx
    | some j =>
      rw[hf] at hx;simp only[ixI] at hx
      obtain rfl:j=k:=by omega
      obtain⟨_,_,_,_,h4⟩:=q4n hf
      exact h4
   ·intro hx
    rw[qc1 (zE hil) rfl rfl hx];rfl
  simp only[eq_true h,go_sem]
  with_reducible repeat' (first|refine br ?_ ?_<;>intro h e<;>(try simp only[e,go_sem,hg])<;>clear e|rw[q00 (by omega)]|refine sd ?_<;>try simp only[go_sem,hg]|fail)
  refine q0m (qs0 d.map d.flows[k].ins.a d.flows[k].ins.p) rfl rfl ?_
  simp only[go_sem,hz]
  have st1:=c108 d.flows[k].up hs1
  have st2:=c108 d.flows[k].down hs2
  have fl:=c107 (d.map.map Pair.row) d.flows d.flows[k].ins d.flows[k].out h2
  with_reducible repeat' (first|refine br ?_ ?_<;>intro h e<;>(try simp only[e,go_sem,hix])<;>clear e|rw[q00 (by omega)]|refine sd ?_<;>try simp only[go_sem,hix]|(first|refine cr (qyt ..) ?_|refine cr (st1 ..) ?_|refine cr (st2 ..) ?_|refine cr (fl ..) ?_)<;>try simp only[go_sem,hix]|fail)
  all_goals first
   | (have hb:q5m d k=false:=by rw[hok];simp_all
      rw[q9f hil hb])
   | skip
  refine⟨k+1,by omega,⟨by omega,λj hj=>?_⟩,(leQ [])⟩
  rcases Nat.lt_or_ge j k with hjk|hjk
  ·exact ha j hjk
  ·obtain rfl:j=k:=by omega
   rw[hok];simp_all
 ·simp only[eq_false h,go_sem]
  have:k=d.flows.length:=by omega
  subst this
  rw[q0c.2 ⟨hm,by omega,ha⟩]
def ic48:IC:=sR [oP 1 (.box 35 (.t 0)),oP 2 (.mv cF)] (.seq (sR [fD 7 0 1,lD 8 1 7,oP 9 (.call 91 [.t 8]),oP 10 (.un .not (.t 9)),mV 11 10,gF 12 11 (.fad 1 (.t 1)),gF 13 11 (.ld 1 false (.t 12)),gF 14 11 (.len (.t 13)),gF 15 11 (.bin .gtr (.t 14) (cI 4)),pT 16 11 15] (cD 16 (sR [oP 2 (.mv cF)] .ret) .skip)) (.seq (sR [oP 3 (.mv (.c i0))] (.block 0 (.loop (.seq (sR [mV 17 3,fD 18 1 1,lD 19 1 18,oP 20 (.len (.t 19)),bN 21 .lss 17 20] (cD 21 .skip (.exit 0))) (.seq (.block 1 (sR [fD 24 1 1,lD 25 1 24,mV 26 3,oP 27 (.iad 8 (.t 25) (.t 26)),lA 28 8 27,oP 4 (.alloc 130 [i0,i0,i0,i0,s0,.nils,s0,.nils]),nP (.sto 8 (.t 4) (.t 28))] (sR [oP 5 (.mv cF)] (.seq (sR [oP 6 (.mv (.c i0))] (.block 2 (.loop (.seq (sR [mV 29 6,fD 30 0 1,lD 31 1 30,oP 32 (.len (.t 31)),bN 33 .lss 29 32] (cD 33 .skip (.exit 2))) (.seq (.block 3 (.drw [0,1,3,7,3,31,63,127,3,259,1023,2047,4095] [(0,mV 36 5),(1,mV 37 36),(2,gF 38 37 (.fad 0 (.t 1))),(3,gF 39 37 (.ld 1 false (.t 38))),(4,gF 40 37 (.mv (.t 6))),(5,gF 41 37 (.iad 3 (.t 39) (.t 40))),(6,gF 42 37 (.fad 1 (.t 41))),(7,gF 43 37 (.ld 2 true (.t 42))),(8,gF 44 37 (.fad 0 (.t 4))),(9,gF 45 37 (.ld 2 true (.t 44))),(10,gF 46 37 (.eqs false [.i,.i] (.t 43) (.t 45))),(11,pT 47 37 46),(12,mV 5 47)])) (.reg [mV 34 6,oP 35 (.bin .add (.t 34) (cI 1)),mV 6 35])))))) (.seq (.drw [0,1,3,7,15,31,63,127,255,511,1023,2047,4095,8191,16383,32767,65535,131071,262143,524287,1048575,2097151,4194303,2097151,16777215,2097151,35651583,2097151,136314879,536870911,1073741823,2147483647] [(0,mV 48 5),(1,oP 49 (.un .not (.t 48))),(2,mV 50 49),(3,gF 51 50 (.fad 2 (.t 4))),(4,gF 52 50 (.ld 2 true (.t 51))),(5,gF 53 50 (.call 92 [.t 52])),(6,gF 54 50 (.un .not (.t 53))),(7,pT 55 50 54),(8,mV 56 55),(9,gF 57 56 (.fad 4 (.t 4))),(10,gF 58 56 (.ld 2 true (.t 57))),(11,gF 59 56 (.call 93 [.t 58])),(12,gF 60 56 (.un .not (.t 59))),(13,pT 61 56 60),(14,mV 62 61),(15,gF 63 62 (.fad 6 (.t 4))),(16,gF 64 62 (.ld 2 true (.t 63))),(17,gF 65 62 (.call 93 [.t 64])),(18,gF 66 62 (.un .not (.t 65))),(19,pT 67 62 66),(20,mV 68 67),(21,gF 69 68 (.fad 1 (.t 1))),(22,gF 70 68 (.ld 1 false (.t 69))),(23,gF 71 68 (.mv (.t 3))),(24,gF 72 68 (.slv 8 (.t 70) none (some (.t 71)))),(25,gF 73 68 (.fad 0 (.t 4))),(26,gF 74 68 (.ld 2 true (.t 73))),(27,gF 75 68 (.fad 2 (.t 4))),(28,gF 76 68 (.ld 2 true (.t 75))),(29,gF 77 68 (.call 94 [.t 72,.t 74,.t 76])),(30,gF 78 68 (.bin .geq (.t 77) (.c i0))),(31,pT 79 68 78)]) (cD 79 (sR [oP 2 (.mv cF)] .ret) .skip)))))) (.reg [mV 22 3,oP 23 (.bin .add (.t 22) (cI 1)),mV 3 23])))))) (sR [oP 2 (.mv cT)] .ret)))
theorem dg48:Dg Tryz.prog 48 Tryz.f48 ic48 [(.t 2)]:=⟨Tryz.func48,by kernel_rfl,by kernel_rfl⟩
theorem c48 (d:Door) (h:DB d):FnR Tryz.prog G 48 [.agg [.sl 3 (d.map.map Pair.row),.sl 8 (d.flows.map Flw.row)]] (.bool (doorOk d)):=by
 refine mF dg48 Tryz.ntmps48 ?_
 obtain⟨h1,h2,h3⟩:=h
 simp only[ic48,go_sem]
 refine q0m (c91 d.map h1) rfl rfl ?_
 cases hm:mapOk d.map<;>simp only[go_sem]
 ·simp[doorOk,hm]
 obtain⟨hp,hml⟩:=q0b hm
 with_reducible repeat' (first|refine br ?_ ?_<;>intro h e<;>(try simp only[e,go_sem])<;>clear e|rw[q00 (by omega)]|refine sd ?_<;>try simp only[go_sem]|fail)
 ·have:¬d.flows.length≤4:=by omega
  simp[doorOk,this]
 refine q0d (λk:Nat=>⟨q0e [(1,.pv 3000001 0),(3,.int .i64 (k:Int))],q01 [(3000001,.var 35 [.sl 3 (d.map.map Pair.row),.sl 8 (d.flows.map Flw.row)])]⟩) (λk=>d.flows.length - k)
  (λk=>k≤d.flows.length∧∀j,j<k→q5m d j=true) 0 (leQ []) ⟨Nat.zero_le _,by omega⟩ ?_
 intro k ⟨hk,ha⟩
 simp only[go_sem]
 by_cases h:(k:Int)<d.flows.length
 ·have hil:k<d.flows.length:=by omega
  have hg:d.flows.getD k default=d.flows[k]:=by simp[List.getD,hil]
  have hok:=q7r hil
  obtain⟨hs1,hs2⟩:=h3 _ (List.getElem_mem hil)
  have hix:ixI (q0y (d.flows.take k) d.flows[k].ins d.flows[k].out)<0↔(d.flows.take k).any (q30 d.flows[k].ins d.flows[k].out)=false:=by
   rw[qnv,q63]
  have hix2:0≤ixI (q0y (d.flows.take k) d.flows[k].ins d.flows[k].out)↔¬(d.flows.take k).any (q30 d.flows[k].ins d.flows[k].out)=false:=by
   rw[←hix];omega
  simp only[eq_true h,go_sem]
  with_reducible repeat' (first|refine br ?_ ?_<;>intro h e<;>(try simp only[e,go_sem,hg])<;>clear e|rw[q00 (by omega)]|refine sd ?_<;>try simp only[go_sem,hg]|fail)
  refine q0d (λi:Nat=>⟨q0e [(1,.pv 3000001 0),(3,.int .i64 (k:Int)),(4,.pv 3000004 0),(5,.bool ((d.map.take i).any λp=>decide (p.ins=d.flows[k].ins))),(6,.int .i64 (i:Int))],q01 [(3000001,.var 35 [.sl 3 (d.map.map Pair.row),.sl 8 (d.flows.map Flw.row)]),(3000004,.var 130 (Flw.row d.flows[k]))]⟩) (λi=>d.map.length - i)
   (λi=>i≤d.map.length) 0 (leQ []) (Nat.zero_le _) ?_
  intro i hi
  simp only[go_sem]
  by_cases h5:(i:Int)<d.map.length
  ·have hil5:i<d.map.length:=by omega
   have hg5:d.map.getD i default=d.map[i]:=by simp[List.getD,hil5]
   have hst:((d.map.take (i+1)).any λq=>decide (q.ins=d.flows[k].ins))=(((d.map.take i).any λq=>decide (q.ins=d.flows[k].ins))||decide (d.map[i].ins=d.flows[k].ins)):=by
    rw[List.take_add_one,zE hil5]
    simp only[Option.toList_some,List.any_append,List.any_cons,List.any_nil,Bool.or_false]
   simp only[eq_true h5,go_sem]
   cases hh:(d.map.take i).any λp=>decide (p.ins=d.flows[k].ins)<;>simp only[go_sem]
   all_goals
    with_reducible repeat' (first|refine br ?_ ?_<;>intro h e<;>(try simp only[e,go_sem,hg5,E.ext_iff'])<;>clear e|rw[q00 (by omega)]|refine sd ?_<;>try simp only[go_sem,hg5,E.ext_iff']|fail)
    refine⟨i+1,by omega,by omega,leN [] ?_ (by simp only[go_sem];first|done|omega|rfl) (by simp[q0f]) (by simp only[go_sem])⟩
    simp only[go_sem,hst,hh];first|done|simp
  ·simp only[eq_false h5,go_sem]
   have:i=d.map.length:=by omega
   subst this
   rw[List.take_length]
   have st1:=c93 d.flows[k].up hs1
   have st2:=c93 d.flows[k].down hs2
   have fl:=c94 (d.flows.take k) d.flows[k].ins d.flows[k].out (by simp;omega)
   with_reducible repeat' (first|refine br ?_ ?_<;>intro h e<;>(try simp only[e,go_sem,hix2])<;>clear e|rw[q00 (by omega)]|refine sd ?_<;>try simp only[go_sem,hix2]|(first|refine cr (c92 ..) ?_|refine cr (st1 ..) ?_|refine cr (st2 ..) ?_|refine cr (fl ..) ?_)<;>try simp only[go_sem,hix2]|fail)
   all_goals first
    | (have hb:q5m d k=false:=by rw[hok];simp_all
       rw[q9f hil hb])
    | skip
   refine⟨k+1,by omega,⟨by omega,λj hj=>?_⟩,(leQ [])⟩
   rcases Nat.lt_or_ge j k with hjk|hjk
   ·exact ha j hjk
   ·obtain rfl:j=k:=by omega
    rw[hok];simp_all
 ·simp only[eq_false h,go_sem]
  have:k=d.flows.length:=by omega
  subst this
  rw[q0c.2 ⟨hm,by omega,ha⟩]
def qqn:IC:=sR [oP 1 (.box 130 (.t 0)),oP 2 (.alloc 130 [i0,i0,i0,i0,s0,.nils,s0,.nils])] (.seq (.drw [0,1,0,4,0,16,48,0,128,496,1023,2047] [(0,fD 3 0 1),(1,lA 4 2 3),(2,fD 5 2 1),(3,lA 6 2 5),(4,fD 7 4 1),(5,lA 8 2 7),(6,oP 9 (.call 144 [.t 8])),(7,fD 10 6 1),(8,lA 11 2 10),(9,oP 12 (.call 144 [.t 11])),(10,oP 13 (.build [i0,i0,i0,i0,s0,.nils,s0,.nils] [(0,(2,.t 4)),(2,(2,.t 6)),(4,(2,.t 9)),(6,(2,.t 12))])),(11,nP (.sto 8 (.t 2) (.t 13)))]) .ret)
theorem qya:Dg Tryz.prog 113 Tryz.f113 qqn [(.cell 2 8 true)]:=⟨Tryz.func113,by kernel_rfl,by kernel_rfl⟩
theorem c113 (f:Flw) (h:f.up.parts.length≤2000000∧f.down.parts.length≤2000000):FnR Tryz.prog G 113 [.agg [.int .i64 f.ins.a,.int .i64 f.ins.p,.int .i64 f.out.a,.int .i64 f.out.p,.str f.up.inn,.sl 2 (f.up.parts.map Part.row),.str f.down.inn,.sl 2 (f.down.parts.map Part.row)]]
 (.agg [.int .i64 f.ins.a,.int .i64 f.ins.p,.int .i64 f.out.a,.int .i64 f.out.p,.str f.up.inn,.sl 2 (f.up.parts.map Part.row),.str f.down.inn,.sl 2 (f.down.parts.map Part.row)]):=by
 refine mF qya Tryz.ntmps113 ?_
 simp only[qqn,go_sem]
 have c1:=c144 f.up.inn (f.up.parts.map Part.row) (by simp;omega)
 have c2:=c144 f.down.inn (f.down.parts.map Part.row) (by simp;omega)
 with_reducible repeat' (first|refine br ?_ ?_<;>intro h e<;>(try simp only[e,go_sem])<;>clear e|rw[q00 (by omega)]|refine sd ?_<;>try simp only[go_sem]|(first|refine cr (c1 ..) ?_|refine cr (c2 ..) ?_)<;>try simp only[go_sem]|fail)
def ic62:IC:=sR [oP 1 (.box 35 (.t 0)),oP 2 (.alloc 35 [.nils,.nils])] (.seq (.drw [0,1,3,0,8,24,56,127,0,511] [(0,fD 6 0 1),(1,lD 7 1 6),(2,oP 8 (.call 112 [.t 7])),(3,fD 9 1 1),(4,lD 10 1 9),(5,oP 11 (.len (.t 10))),(6,oP 12 (.mks 130 8 (.t 11))),(7,oP 13 (.build [.nils,.nils] [(0,(1,.t 8)),(1,(1,.t 12))])),(8,oP 3 (.alloc 35 [.nils,.nils])),(9,nP (.sto 2 (.t 3) (.t 13)))]) (.seq (sR [fD 14 1 1,lD 15 1 14,oP 16 (.len (.t 15)),oP 17 (.mv (.c i0))] (.block 0 (.loop (sR [bN 18 .lss 17 16] (.seq (cD 18 .skip (.exit 0)) (.seq (.block 1 (sR [oP 19 (.iad 8 (.t 15) (.t 17)),lA 20 8 19,oP 5 (.alloc 130 [i0,i0,i0,i0,s0,.nils,s0,.nils]),nP (.sto 8 (.t 5) (.t 20))] (.drw [0,1,0,4,12,31,63,127] [(0,fD 21 1 3),(1,lD 22 1 21),(2,lA 23 8 5),(3,oP 24 (.call 113 [.t 23])),(4,oP 25 (.bsl 130 8 [.t 24])),(5,oP 26 (.app 130 8 (.t 22) (.t 25))),(6,fD 27 1 3),(7,nP (.sto 1 (.t 27) (.t 26)))]))) (.reg [oP 28 (.bin .add (.t 17) (cI 1)),mV 17 28]))))))) (sR [lA 29 2 3,nP (.sto 2 (.t 2) (.t 29))] .ret)))
theorem dg62:Dg Tryz.prog 62 Tryz.f62 ic62 [(.cell 2 2 true)]:=⟨Tryz.func62,by kernel_rfl,by kernel_rfl⟩
theorem c62 (rows:List (List V)) (fs:List Flw) (hr:rows.length≤2000000) (hf:fs.length≤1000000) (h:∀f∈fs,f.up.parts.length≤2000000∧f.down.parts.length≤2000000) :
 FnP Tryz.prog G 62 0 [] [.agg [.sl 3 rows,.sl 8 (fs.map Flw.row)]] (λr o=>r=.agg [.own 0 rows.length,.own 1 fs.length]∧o=[.arr 132 3 rows,.arr 130 8 (fs.map Flw.row)]):=by
 refine mP dg62 Tryz.ntmps62 ⟨_,_,rfl,rfl⟩ ?_
 simp only[ic62,go_sem]
 with_reducible repeat' (first|refine br ?_ ?_<;>intro h e<;>(try simp only[e,go_sem])<;>clear e|rw[q00 (by omega)]|refine sd ?_<;>try simp only[go_sem]|fail)
 refine q14 (c112 rows hr) [] 8 1 (by simp only[go_sem];first|done|simp) (by simp) (by rintro _ _ ⟨rfl,rfl⟩;simp) (by intro i hi;obtain rfl:i=0:=(by omega);simp only[go_sem]) ?_
 rintro _ _ ⟨rfl,rfl⟩
 simp only[go_sem]
 with_reducible repeat' (first|refine br ?_ ?_<;>intro h e<;>(try simp only[e,go_sem])<;>clear e|rw[q00 (by omega)]|refine sd ?_<;>try simp only[go_sem]|fail)
 refine q0d (λk:Nat=>⟨q0e [(2,.pv 3000002 0),(3,.pv 3000003 0),(15,.sl 8 (fs.map Flw.row)),(16,.int .i64 fs.length),(17,.int .i64 (k:Int))],q01 [(3000002,.var 35 [.nils,.nils]),(3000003,.var 35 [.own 100800 rows.length,.own 3000012 k]),(100800,.arr 132 3 rows),(3000012,.arr 130 8 ((fs.take k).map Flw.row))]⟩) (λk=>fs.length - k)
  (λk=>k≤fs.length) 0 (leQ []) (Nat.zero_le _) ?_
 intro k hk
 simp only[go_sem]
 by_cases h5:(k:Int)<fs.length
 ·have hil:k<fs.length:=by omega
  have hg:fs.getD k default=fs[k]:=by simp[List.getD,hil]
  have hlen:(fs.take k).length=k:=by simp;omega
  have c1:=c113 fs[k] (h _ (List.getElem_mem hil))
  simp only[eq_true h5,go_sem]
  with_reducible repeat' (first|refine br ?_ ?_<;>intro h e<;>(try simp only[e,go_sem,hg,hlen])<;>clear e|rw[q00 (by omega)]|refine sd ?_<;>try simp only[go_sem,hg,hlen]|(first|refine cr (c1 ..) ?_)<;>try simp only[go_sem,hg,hlen]|fail)
  refine⟨k+1,by omega,by omega,leN [(3000012,3000026)] ?_ ?_ (by simp[q0f]) (by simp only[go_sem])⟩
  ·simp only[go_sem];first|done|omega
  ·simp only[go_sem];rw[List.take_add_one,zE hil];simp only[Option.toList_some,List.map_append,List.map_cons,List.map_nil,Flw.row]
 ·simp only[eq_false h5,go_sem]
  have:k=fs.length:=by omega
  subst this
  rw[List.take_length]
  with_reducible repeat' (first|refine br ?_ ?_<;>intro h e<;>(try simp only[e,go_sem])<;>clear e|rw[q00 (by omega)]|refine sd ?_<;>try simp only[go_sem]|fail)
  refine q1h (.agg [.own 0 rows.length,.own 1 fs.length]) [.arr 132 3 rows,.arr 130 8 (fs.map Flw.row)] [(0,100800),(1,3000012)] ?_ ⟨rfl,rfl⟩ ?_ (by simp[q11,q0f]) (by simp only[go_sem])
  ·simp only[go_sem]
  ·simp only[go_sem]
def ic49:IC:=sR [oP 1 (.box 35 (.t 0)),oP 2 (.alloc 35 [.nils,.nils])] (sR [fD 6 0 1,lD 7 1 6,oP 8 (.call 95 [.t 7]),oP 9 (.bsl 130 8 []),oP 10 (.build [.nils,.nils] [(0,(1,.t 8)),(1,(1,.t 9))]),oP 3 (.alloc 35 [.nils,.nils]),nP (.sto 2 (.t 3) (.t 10))] (.seq (sR [oP 4 (.mv (.c i0))] (.block 0 (.loop (.seq (sR [mV 11 4,fD 12 1 1,lD 13 1 12,oP 14 (.len (.t 13)),bN 15 .lss 11 14] (cD 15 .skip (.exit 0))) (.seq (.block 1 (sR [fD 18 1 1,lD 19 1 18,mV 20 4,oP 21 (.iad 8 (.t 19) (.t 20)),lA 22 8 21,oP 5 (.alloc 130 [i0,i0,i0,i0,s0,.nils,s0,.nils]),nP (.sto 8 (.t 5) (.t 22))] (sR [fD 23 4 5,lA 24 2 23,oP 25 (.call 96 [.t 24]),fD 26 4 5,nP (.sto 2 (.t 26) (.t 25))] (sR [fD 27 6 5,lA 28 2 27,oP 29 (.call 96 [.t 28]),fD 30 6 5,nP (.sto 2 (.t 30) (.t 29))] (.reg [fD 31 1 3,lD 32 1 31,lA 33 8 5,oP 34 (.bsl 130 8 [.t 33]),oP 35 (.app 130 8 (.t 32) (.t 34)),fD 36 1 3,nP (.sto 1 (.t 36) (.t 35))]))))) (.reg [mV 16 4,oP 17 (.bin .add (.t 16) (cI 1)),mV 4 17])))))) (sR [lA 37 2 3,nP (.sto 2 (.t 2) (.t 37))] .ret)))
theorem dg49:Dg Tryz.prog 49 Tryz.f49 ic49 [(.cell 2 2 true)]:=⟨Tryz.func49,by kernel_rfl,by kernel_rfl⟩
theorem c49 (rows:List (List V)) (fs:List Flw) (hr:rows.length≤2000000) (hf:fs.length≤1000000) (h:∀f∈fs,f.up.parts.length≤2000000∧f.down.parts.length≤2000000) :
 FnP Tryz.prog G 49 0 [] [.agg [.sl 3 rows,.sl 8 (fs.map Flw.row)]] (λr o=>r=.agg [.own 0 rows.length,.own 1 fs.length]∧o=[.arr 132 3 rows,.arr 130 8 (fs.map Flw.row)]):=by
 refine mP dg49 Tryz.ntmps49 ⟨_,_,rfl,rfl⟩ ?_
 simp only[ic49,go_sem]
 with_reducible repeat' (first|refine br ?_ ?_<;>intro h e<;>(try simp only[e,go_sem])<;>clear e|rw[q00 (by omega)]|refine sd ?_<;>try simp only[go_sem]|fail)
 refine q14 (c95 rows hr) [] 8 1 (by simp only[go_sem];first|done|simp) (by simp) (by rintro _ _ ⟨rfl,rfl⟩;simp) (by intro i hi;obtain rfl:i=0:=(by omega);simp only[go_sem]) ?_
 rintro _ _ ⟨rfl,rfl⟩
 simp only[go_sem]
 with_reducible repeat' (first|refine br ?_ ?_<;>intro h e<;>(try simp only[e,go_sem])<;>clear e|rw[q00 (by omega)]|refine sd ?_<;>try simp only[go_sem]|fail)
 refine q0d (λk:Nat=>⟨q0e [(1,.pv 3000001 0),(2,.pv 3000002 0),(3,.pv 3000003 0),(4,.int .i64 (k:Int))],q01 [(3000001,.var 35 [.sl 3 rows,.sl 8 (fs.map Flw.row)]),(3000002,.var 35 [.nils,.nils]),(3000003,.var 35 [.own 100800 rows.length,.own 3000009 k]),(100800,.arr 132 3 rows),(3000009,.arr 130 8 ((fs.take k).map Flw.row))]⟩) (λk=>fs.length - k)
  (λk=>k≤fs.length) 0 (leQ []) (Nat.zero_le _) ?_
 intro k hk
 simp only[go_sem]
 by_cases h5:(k:Int)<fs.length
 ·have hil:k<fs.length:=by omega
  have hg:fs.getD k default=fs[k]:=by simp[List.getD,hil]
  have hlen:(fs.take k).length=k:=by simp;omega
  have hb:=h _ (List.getElem_mem hil)
  have c1:=c96 fs[k].up.inn (fs[k].up.parts.map Part.row) (by simp;omega)
  have c2:=c96 fs[k].down.inn (fs[k].down.parts.map Part.row) (by simp;omega)
  simp only[eq_true h5,go_sem]
  with_reducible repeat' (first|refine br ?_ ?_<;>intro h e<;>(try simp only[e,go_sem,hg,hlen])<;>clear e|rw[q00 (by omega)]|refine sd ?_<;>try simp only[go_sem,hg,hlen]|(first|refine cr (c1 ..) ?_|refine cr (c2 ..) ?_)<;>try simp only[go_sem,hg,hlen]|fail)
  refine⟨k+1,by omega,by omega,leN [(3000009,3000035)] ?_ ?_ (by simp[q0f]) (by simp only[go_sem])⟩
  ·simp only[go_sem];first|done|omega
  ·simp only[go_sem];rw[List.take_add_one,zE hil];simp only[Option.toList_some,List.map_append,List.map_cons,List.map_nil,Flw.row]
 ·simp only[eq_false h5,go_sem]
  have:k=fs.length:=by omega
  subst this
  rw[List.take_length]
  with_reducible repeat' (first|refine br ?_ ?_<;>intro h e<;>(try simp only[e,go_sem])<;>clear e|rw[q00 (by omega)]|refine sd ?_<;>try simp only[go_sem]|fail)
  refine q1h (.agg [.own 0 rows.length,.own 1 fs.length]) [.arr 132 3 rows,.arr 130 8 (fs.map Flw.row)] [(0,100800),(1,3000009)] ?_ ⟨rfl,rfl⟩ ?_ (by simp[q11,q0f]) (by simp only[go_sem])
  ·simp only[go_sem]
  ·simp only[go_sem]
structure PutOk (m:List Pair) (s:Strm) (n:Int) (t:B):Prop where
 m:mapOk m=true
 s:strmOk s=true
 n:0≤n∧n≤999
 t:t.length≤40
def qug:IC:=sR [oP 5 (.box 128 (.t 0)),oP 10 (.mv (.c .nils)),oP 11 (.alloc 128 [s0,.nils]),oP 12 (.mv cF)] (sR [fD 24 0 5,lD 25 1 24,mV 26 2,mV 27 3,oP 28 (.call 149 [.t 25,.t 26,.t 27]),mV 23 28,eX 29 23 0,eX 30 23 1,mV 13 29,mV 14 30] (.seq (sR [mV 31 14,oP 32 (.un .not (.t 31))] (cD 32 (.seq (.drw [0,0,1,7,15] [(0,mV 33 1),(1,lA 34 2 5),(2,mV 10 33),(3,nP (.sto 2 (.t 11) (.t 34))),(4,oP 12 (.mv cF))]) .ret) .skip)) (.seq (.drw [0,1,0,4,12,31,63] [(0,mV 35 13),(1,oP 36 (.call 139 [.t 35])),(2,fD 37 1 5),(3,lD 38 1 37),(4,oP 39 (.len (.t 38))),(5,oP 40 (.slv 4 (.t 36) (some (.t 39)) none)),(6,mV 15 40)]) (sR [oP 16 (.mv (.c i0))] (.seq (sR [fD 41 1 5,lD 42 1 41,oP 43 (.len (.t 42)),oP 44 (.mv (.c i0))] (.block 0 (.loop (sR [bN 45 .lss 44 43] (.seq (cD 45 .skip (.exit 0)) (.seq (.block 1 (sR [oP 46 (.iad 2 (.t 42) (.t 44)),lA 47 2 46,oP 18 (.alloc 167 [i0,s0]),nP (.sto 2 (.t 18) (.t 47))] (.reg [mV 48 16,fD 49 0 18,lD 50 1 49,bN 51 .add 48 50,mV 16 51]))) (.reg [oP 52 (.bin .add (.t 44) (cI 1)),mV 44 52]))))))) (sR [mV 54 1,mV 55 15,mV 56 13,mV 57 16,oP 58 (.sls (.t 56) (some (.t 57)) none),mV 59 4,oP 60 (.call 208 [.t 54,.t 55,.t 58,.t 59]),mV 53 60,eX 61 53 0,eX 62 53 1,mV 19 61,mV 20 62] (sR [mV 63 13,fD 64 1 5,lD 65 1 64,oP 66 (.call 165 [.t 65]),oP 67 (.build [s0,.nils] [(0,(1,.t 63)),(1,(1,.t 66))]),nP (.sto 2 (.t 5) (.t 67))] (.seq (sR [mV 68 15,oP 69 (.len (.t 68)),oP 70 (.mv (.c i0))] (.block 2 (.loop (sR [bN 71 .lss 70 69] (.seq (cD 71 .skip (.exit 2)) (.seq (.block 3 (sR [mV 72 70,oP 73 (.iad 4 (.t 68) (.t 70)),lA 74 4 73,oP 22 (.alloc 169 [i0,.bool false,i0,i0]),mV 21 72,nP (.sto 4 (.t 22) (.t 74))] (.drw [0,1,0,4,0,0,48,112,252,508,1023,2047,4095] [(0,fD 75 1 5),(1,lD 76 1 75),(2,fD 77 0 22),(3,lD 78 1 77),(4,mV 79 20),(5,mV 80 21),(6,oP 81 (.iad 1 (.t 79) (.t 80))),(7,lD 82 1 81),(8,oP 83 (.build [i0,s0] [(0,(1,.t 78)),(1,(1,.t 82))])),(9,oP 84 (.bsl 167 2 [.t 83])),(10,oP 85 (.app 167 2 (.t 76) (.t 84))),(11,fD 86 1 5),(12,nP (.sto 1 (.t 86) (.t 85)))]))) (.reg [oP 87 (.bin .add (.t 70) (cI 1)),mV 70 87]))))))) (.seq (.drw [0,0,1,7,15] [(0,mV 88 19),(1,lA 89 2 5),(2,mV 10 88),(3,nP (.sto 2 (.t 11) (.t 89))),(4,oP 12 (.mv cT))]) .ret)))))))))
theorem dg194:Dg Tryz.prog 194 Tryz.f194 qug [(.t 10),(.cell 11 2 true),(.t 12)]:=⟨Tryz.func194,by kernel_rfl,by kernel_rfl⟩
theorem c194 (m:List Pair) (s:Strm) (n:Int) (t:B) (out:Bool) (h:PutOk m s n t):FnR Tryz.prog G 194 [.agg [.str s.inn,.sl 2 (s.parts.map Part.row)],.sl 3 (m.map Pair.row),.int .i64 n,.str t,.bool out]
 (.tup [.sl 3 ((put m s n t out).1.map Pair.row),.agg [.str (put m s n t out).2.1.inn,.sl 2 ((put m s n t out).2.1.parts.map Part.row)],.bool (put m s n t out).2.2]):=by
 refine mF dg194 Tryz.ntmps194 ?_
 obtain⟨hm,hs,hn,ht⟩:=h
 obtain⟨hp,hml⟩:=q0b hm
 obtain⟨s1,s2,s3⟩:=q0t hs
 simp only[qug,go_sem]
 refine q0m (c149 s.inn n t (by omega) (by omega) (by omega)) rfl rfl ?_
 simp only[go_sem]
 cases hb:(q0a s.inn n t).2<;>simp only[go_sem]
 ·with_reducible repeat' (first|rw[q00 (by omega)];try simp only[go_sem]|refine br ?_ ?_<;>intro h e<;>(try simp only[e,go_sem])<;>clear e|refine sd ?_<;>try simp only[go_sem]|fail)
  simp[put,hb]
 obtain⟨x,hx,hx40⟩:=q73 hb
 obtain⟨f1,f2,f3,f4⟩:=qao hs x
 have hpl:=q3c (q0a s.inn n t).1
 have hput:put m s n t out=((turned m ((pieces (q0a s.inn n t).1).drop s.parts.length) ((q0a s.inn n t).1.drop (doneP s.parts)) out).1,
  ⟨(q0a s.inn n t).1,s.parts++q0w ((pieces (q0a s.inn n t).1).drop s.parts.length) (turned m ((pieces (q0a s.inn n t).1).drop s.parts.length) ((q0a s.inn n t).1.drop (doneP s.parts)) out).2⟩,true):=by
  simp[put,hb]
 rw[hput]
 rw[←hx] at f1 f2 f3 f4
 generalize (q0a s.inn n t).1=inn at *
 have hil:inn.length≤80:=by rw[hx];simp;omega
 with_reducible repeat' (first|rw[q00 (by omega)];try simp only[go_sem]|refine br ?_ ?_<;>intro h e<;>(try simp only[e,go_sem])<;>clear e|refine sd ?_<;>try simp only[go_sem]|(first|refine cr (c139 ..) ?_)<;>try simp only[go_sem]|fail)
 refine q0d (λi:Nat=>⟨q0e [(1,.sl 3 (m.map Pair.row)),(4,.bool out),(5,.pv 3000005 0),(11,.pv 3000011 0),(13,.str inn),(15,.sl 4 (((pieces inn).drop s.parts.length).map Pc.row)),(16,.int .i64 (doneP (s.parts.take i))),(42,.sl 2 (s.parts.map Part.row)),(43,.int .i64 s.parts.length),(44,.int .i64 (i:Int))],
  q01 [(3000005,.var 128 [.str s.inn,.sl 2 (s.parts.map Part.row)]),(3000011,.var 128 [.str [],.nils])]⟩) (λi=>s.parts.length - i) (λi=>i≤s.parts.length) 0 ?_ (Nat.zero_le _) ?_
 ·refine leN [] ?_ (by simp only[go_sem]) (by simp[q0f]) (by simp only[go_sem])
  simp only[go_sem]
  rw[List.take_length];exact⟨rfl,rfl⟩
 intro i hi
 simp only[go_sem]
 have hdl:=qec (l:=s.parts) (λp hp=>(s3 p hp).1.2) i
 by_cases h:(i:Int)<s.parts.length
 ·have hil:i<s.parts.length:=by omega
  have hst:=q96 hil
  have h3':=(s3 _ (List.getElem_mem hil)).1
  have hg:s.parts.getD i default=s.parts[i]:=by simp[List.getD,hil]
  simp only[eq_true h,go_sem]
  refine effG (by omega) ?_
  simp only[hg,go_sem]
  with_reducible repeat' (first|rw[q00 (by omega)];try simp only[go_sem]|refine br ?_ ?_<;>intro h e<;>(try simp only[e,go_sem])<;>clear e|refine sd ?_<;>try simp only[go_sem]|fail)
  refine⟨i+1,by omega,by omega,leN [] (by simp only[go_sem,hst];omega) (by simp only[go_sem]) (by simp[q0f]) (by simp only[go_sem])⟩
 ·simp only[eq_false h,go_sem]
  have:i=s.parts.length:=by omega
  subst this
  rw[List.take_length] at *
  with_reducible repeat' (first|rw[q00 (by omega)];try simp only[go_sem]|refine br ?_ ?_<;>intro h e<;>(try simp only[e,go_sem])<;>clear e|refine sd ?_<;>try simp only[go_sem]|fail)
  rw[List.take_length]
  refine q0m (c208 m _ _ out hp (by omega) (by simp;omega) (by simp;omega) f4) rfl rfl ?_
  simp only[go_sem]
  refine q14 (c165 (s.parts.map Part.row) (by simp;omega)) [] 66 1 (by simp only[go_sem];first|done|simp) (by simp) (by rintro _ _ ⟨rfl,rfl⟩;simp) (by intro i hi;obtain rfl:i=0:=(by omega);simp only[go_sem]) ?_
  rintro _ _ ⟨rfl,rfl⟩
  simp only[go_sem]
  have htl:=q6z ((pieces inn).drop s.parts.length) m (inn.drop (doneP s.parts)) out
  generalize turned m ((pieces inn).drop s.parts.length) (inn.drop (doneP s.parts)) out=r at *
  have hll:((pieces inn).drop s.parts.length).length≤80:=by simp;omega
  generalize (pieces inn).drop s.parts.length=l at *
  refine q0d (λi:Nat=>⟨q0e [(5,.pv 3000005 0),(11,.pv 3000011 0),(19,.sl 3 (r.1.map Pair.row)),(20,.sl 1 (r.2.map λx=>[.str x])),(68,.sl 4 (l.map Pc.row)),(69,.int .i64 l.length),(70,.int .i64 (i:Int))],
   q01 [(3000005,.var 128 [.str inn,.own 106600 (s.parts.length+i)]),(3000011,.var 128 [.str [],.nils]),(106600,.arr 167 2 ((s.parts++q0w (l.take i) (r.2.take i)).map Part.row))]⟩) (λi=>l.length - i) (λi=>i≤l.length) 0 ?_ (Nat.zero_le _) ?_
  ·refine leN [] (by simp only[go_sem];first|done|rfl) ?_ (by simp[q0f]) (by simp only[go_sem])
   simp only[go_sem];simp[q0w]
  intro i hi
  simp only[go_sem]
  by_cases h2:(i:Int)<l.length
  ·have hil2:i<l.length:=by omega
   have hst:=q77 l r.2 i htl hil2
   have hml:(q0w (l.take i) (r.2.take i)).length=i:=by
    rw[q4o (by simp;omega)];simp;omega
   have hml2:(s.parts++q0w (l.take i) (r.2.take i)).length=s.parts.length+i:=by simp[hml]
   simp only[eq_true h2,go_sem]
   refine effG (by omega) ?_
   simp only[go_sem]
   with_reducible repeat' (first|rw[q00 (by omega)];try simp only[go_sem]|refine br ?_ ?_<;>intro h e<;>(try simp only[e,go_sem])<;>clear e|refine sd ?_<;>try simp only[go_sem]|fail)
   refine⟨i+1,by omega,by omega,leN [(106600,3000085)] ?_ ?_ (by simp[q0f]) (by simp only[go_sem])⟩
   ·simp only[go_sem];omega
   ·simp only[go_sem,hst];simp[Part.row];omega
  ·simp only[eq_false h2,go_sem]
   have:i=l.length:=by omega
   subst this
   rw[List.take_length,←htl,List.take_length]
   with_reducible repeat' (first|rw[q00 (by omega)];try simp only[go_sem]|refine br ?_ ?_<;>intro h e<;>(try simp only[e,go_sem])<;>clear e|refine sd ?_<;>try simp only[go_sem]|fail)
   first|exact⟨rfl,by rw[zA,q4o htl,htl]⟩|rw[zA,q4o htl,htl]
def q5i (s:Strm) (p:Pk):Pk×Bool:=if p.at_>(sOut s).length then(.zero,false) else({ p with at_:=q38 s.parts p.at_ },true)
def qtg:IC:=sR [oP 2 (.box 128 (.t 0)),oP 3 (.box 54 (.t 1)),oP 4 (.alloc 54 [i0,i0,i0,i0,i0,i0,s0]),oP 5 (.mv cF)] (.seq (.seq (.drw [0,1,0,4,12,31] [(0,fD 6 5 3),(1,lD 7 1 6),(2,lA 8 2 2),(3,oP 9 (.call 192 [.t 8])),(4,oP 10 (.lens (.t 9))),(5,bN 11 .gtr 7 10)]) (cD 11 (sR [oP 12 (.build [i0,i0,i0,i0,i0,i0,s0] []),nP (.sto 7 (.t 4) (.t 12)),oP 5 (.mv cF)] .ret) .skip)) (sR [lA 13 2 2,fD 14 5 3,lD 15 1 14,oP 16 (.call 193 [.t 13,.t 15]),fD 17 5 3,nP (.sto 1 (.t 17) (.t 16))] (sR [lA 18 7 3,nP (.sto 7 (.t 4) (.t 18)),oP 5 (.mv cT)] .ret)))
theorem dg168:Dg Tryz.prog 168 Tryz.f168 qtg [(.cell 4 7 true),(.t 5)]:=⟨Tryz.func168,by kernel_rfl,by kernel_rfl⟩
theorem c168 (s:Strm) (p:Pk) (h:StrB s) (hp : -10000≤p.at_∧p.at_≤10000):FnR Tryz.prog G 168 [.agg [.str s.inn,.sl 2 (s.parts.map Part.row)],.agg [.int .i64 p.kind,.int .i64 p.frm.a,.int .i64 p.frm.p,.int .i64 p.to.a,.int .i64 p.to.p,.int .i64 p.at_,.str p.text]]
 (.tup [.agg (Pk.row (q5i s p).1),.bool (q5i s p).2]):=by
 refine mF dg168 Tryz.ntmps168 ?_
 have so:=q4q h
 have f1:=c192 s h
 have f2:=c193 s p.at_ h hp
 simp only[qtg,go_sem]
 with_reducible repeat' (first|refine br ?_ ?_<;>intro h e<;>(try simp only[e,go_sem])<;>clear e|rw[q00 (by omega)]|refine sd ?_<;>try simp only[go_sem]|(first|refine cr (f1 ..) ?_|refine cr (f2 ..) ?_)<;>try simp only[go_sem]|fail)
 ·simp only[q5i];rw[if_pos (by omega)];simp[Pk.zero,E.zero]
 ·simp only[q5i];rw[if_neg (by omega)];simp
theorem r112 (rows:List (List V)) (hr:rows.length≤2000000):FnR Tryz.prog G 112 [.sl 3 rows] (.sl 3 rows):=by
 refine mF qzt Tryz.ntmps112 ?_
 simp only[qqc,go_sem]
 refine q14 (c143 rows hr) [] 4 1 (by simp only[go_sem];first|done|simp) (by simp) (by rintro _ _ ⟨rfl,rfl⟩;simp) (by intro i hi;obtain rfl:i=0:=(by omega);simp only[go_sem]) ?_
 rintro _ _ ⟨rfl,rfl⟩
 simp only[go_sem]
 refine q1z (o142 rows rows.length rfl) [100400] [] 5 1 (by simp only[go_sem];first|done|simp) (by simp only[go_sem];first|done|simp) (by simp) (by simp) (by rintro _ _ ⟨rfl,rfl⟩;simp) (by intro i hi;obtain rfl:i=0:=(by omega);simp only[go_sem]) ?_
 rintro _ _ ⟨rfl,rfl⟩
 simp only[go_sem]
def qow:IC:=sR [oP 6 (.box 54 (.t 2)),oP 8 (.alloc 54 [i0,i0,i0,i0,i0,i0,s0]),oP 9 (.mv cF)] (sR [mV 17 1,oP 18 (.nilc (.t 17)),fD 19 0 18,lD 20 1 19,oP 21 (.lens (.t 20)),mV 10 21] (.seq (.drw [0,1,3,0,8,24,56,0,128,0,512,0,4095,8191,16383,16383,16383,0,163839,458751,1048575] [(0,mV 23 1),(1,oP 24 (.nilc (.t 23))),(2,lA 25 2 24),(3,mV 26 0),(4,oP 27 (.nilc (.t 26))),(5,fD 28 0 27),(6,lD 29 1 28),(7,fD 30 5 6),(8,lD 31 1 30),(9,fD 32 6 6),(10,lD 33 1 32),(11,mV 34 3),(12,oP 35 (.call 194 [.t 25,.t 29,.t 31,.t 33,.t 34])),(13,mV 22 35),(14,eX 36 22 0),(15,eX 37 22 1),(16,eX 38 22 2),(17,oP 12 (.alloc 128 [s0,.nils])),(18,mV 11 36),(19,nP (.sto 2 (.t 12) (.t 37))),(20,mV 13 38)]) (.seq (sR [mV 39 13,oP 40 (.un .not (.t 39))] (cD 40 (sR [oP 41 (.build [i0,i0,i0,i0,i0,i0,s0] []),nP (.sto 7 (.t 8) (.t 41)),oP 9 (.mv cF)] .ret) .skip)) (.seq (.drw [0,0,0,4,0,13,45,109,255,511] [(0,mV 42 0),(1,mV 43 1),(2,mV 44 11),(3,oP 45 (.call 112 [.t 44])),(4,lA 46 2 12),(5,oP 47 (.nilc (.t 42))),(6,fD 48 0 47),(7,nP (.sto 1 (.t 48) (.t 45))),(8,oP 49 (.nilc (.t 43))),(9,nP (.sto 2 (.t 49) (.t 46)))]) (sR [mV 50 1,oP 51 (.nilc (.t 50)),lA 52 2 51,oP 53 (.call 192 [.t 52]),mV 14 53] (.seq (.drw [0,1,3,0,8,31,0,64,63,511] [(0,mV 54 1),(1,oP 55 (.nilc (.t 54))),(2,lA 56 2 55),(3,fD 57 5 6),(4,lD 58 1 57),(5,oP 59 (.call 195 [.t 56,.t 58])),(6,mV 60 14),(7,oP 61 (.lens (.t 60))),(8,mV 15 59),(9,mV 16 61)]) (.seq (sR [mV 62 1,oP 63 (.nilc (.t 62)),fD 64 0 63,lD 65 1 64,oP 66 (.lens (.t 65)),mV 67 10,bN 68 .eql 66 67] (cD 68 (.drw [0,1,3,0,8,0,32,96,248,0,1016,2047,4095] [(0,mV 69 1),(1,oP 70 (.nilc (.t 69))),(2,lA 71 2 70),(3,fD 72 5 6),(4,lD 73 1 72),(5,fD 74 6 6),(6,lD 75 1 74),(7,oP 76 (.lens (.t 75))),(8,bN 77 .add 73 76),(9,mV 78 10),(10,oP 79 (.mn (.t 77) (.t 78))),(11,oP 80 (.call 195 [.t 71,.t 79])),(12,mV 16 80)]) .skip)) (.seq (.drw [0,0,0,0,0,24,62,1,129,511,1023] [(0,mV 81 15),(1,mV 82 14),(2,mV 83 15),(3,mV 84 16),(4,mV 85 15),(5,oP 86 (.mx (.t 84) (.t 85))),(6,oP 87 (.sls (.t 82) (some (.t 83)) (some (.t 86)))),(7,fD 88 5 6),(8,nP (.sto 1 (.t 88) (.t 81))),(9,fD 89 6 6),(10,nP (.sto 1 (.t 89) (.t 87)))]) (.seq (.drw [0,0,2,6,14,31,63] [(0,lA 90 7 6),(1,fD 91 6 6),(2,lD 92 1 91),(3,oP 93 (.lens (.t 92))),(4,oP 94 (.call 27 [.t 93,cI 1,cI 40])),(5,nP (.sto 7 (.t 8) (.t 90))),(6,mV 9 94)]) .ret)))))))))
theorem qvq:Dg Tryz.prog 169 Tryz.f169 qow [(.cell 8 7 true),(.t 9)]:=⟨Tryz.func169,by kernel_rfl,by kernel_rfl⟩
def qw4:IC:=sR [oP 3 (.box 54 (.t 1)),oP 4 (.alloc 54 [i0,i0,i0,i0,i0,i0,s0]),oP 5 (.mv cF)] (.seq (.drw [0,1,3,7,0,16,48,127,255,511,511,0,3071,8191] [(0,mV 10 0),(1,oP 11 (.nilc (.t 10))),(2,fD 12 0 11),(3,lD 13 1 12),(4,fD 14 3 3),(5,fD 15 1 14),(6,lD 16 1 15),(7,oP 17 (.call 170 [.t 13,.t 16])),(8,mV 9 17),(9,eX 18 9 0),(10,eX 19 9 1),(11,oP 6 (.alloc 52 [i0,i0])),(12,nP (.sto 2 (.t 6) (.t 18))),(13,mV 7 19)]) (.seq (.drw [0,1,3,0,0,16,63,127] [(0,mV 20 0),(1,oP 21 (.nilc (.t 20))),(2,lA 22 2 21),(3,lA 23 2 6),(4,fD 24 1 3),(5,lA 25 2 24),(6,oP 26 (.call 107 [.t 22,.t 23,.t 25])),(7,mV 8 26)]) (.seq (sR [mV 27 7,oP 28 (.un .not (.t 27)),mV 29 28,gF 30 29 (.mv (.t 8)),gF 31 29 (.bin .lss (.t 30) (.c i0)),pT 32 29 31] (cD 32 (sR [oP 33 (.build [i0,i0,i0,i0,i0,i0,s0] []),nP (.sto 7 (.t 4) (.t 33)),oP 5 (.mv cF)] .ret) .skip)) (sR [lA 34 2 6,fD 35 3 3,nP (.sto 2 (.t 35) (.t 34))] (.seq (sR [fD 36 0 3,lD 37 1 36,oP 38 (.bin .eql (.t 37) (cI 2))] (cD 38 (.seq (.drw [0,1,3,7,0,31,63,127,0,511,1023,1023,4095,8191] [(0,mV 39 0),(1,oP 40 (.nilc (.t 39))),(2,fD 41 1 40),(3,lD 42 1 41),(4,mV 43 8),(5,oP 44 (.iad 8 (.t 42) (.t 43))),(6,fD 45 4 44),(7,lA 46 2 45),(8,lA 47 7 3),(9,oP 48 (.call 168 [.t 46,.t 47])),(10,eX 49 48 0),(11,eX 50 48 1),(12,nP (.sto 7 (.t 4) (.t 49))),(13,mV 5 50)]) .ret) .skip)) (.seq (.drw [0,0,2,6,14,0,62,126,0,511,1023,1023,4095,8191] [(0,mV 51 0),(1,mV 52 0),(2,oP 53 (.nilc (.t 52))),(3,fD 54 1 53),(4,lD 55 1 54),(5,mV 56 8),(6,oP 57 (.iad 8 (.t 55) (.t 56))),(7,fD 58 6 57),(8,lA 59 7 3),(9,oP 60 (.call 169 [.t 51,.t 58,.t 59,cF])),(10,eX 61 60 0),(11,eX 62 60 1),(12,nP (.sto 7 (.t 4) (.t 61))),(13,mV 5 62)]) .ret))))))
theorem dg148:Dg Tryz.prog 148 Tryz.f148 qw4 [(.cell 4 7 true),(.t 5)]:=⟨Tryz.func148,by kernel_rfl,by kernel_rfl⟩
theorem qh8 (l:List (List V)) (r:List V) {n:Nat} (h:n=l.length) (x:List V):(l++[r]).getD n x=r:=by
 subst h;simp[List.getD]
theorem qrh (fs:List Flw) (i o:E):RowsW (fs.map Flw.row++[[.int .i64 i.a,.int .i64 i.p,.int .i64 o.a,.int .i64 o.p,.str [],.nils,.str [],.nils]]) ((fs++[Flw.mk i o .zero .zero]).map Flw.row):=by
 rw[List.map_append]
 exact RowsW.app (RowsW.refl _) (RowsW.one (.same _ (.same _ (.same _ (.same _ (.same _ (.nils 2 (.same _ (.nils 2 .nil)))))))))
def qvg:IC:=sR [oP 3 (.box 54 (.t 1)),oP 4 (.alloc 54 [i0,i0,i0,i0,i0,i0,s0]),oP 5 (.mv cF)] (.seq (.drw [0,1,3,0,8,0,32,127,255] [(0,mV 10 0),(1,oP 11 (.nilc (.t 10))),(2,lA 12 2 11),(3,fD 13 1 3),(4,lA 14 2 13),(5,fD 15 3 3),(6,lA 16 2 15),(7,oP 17 (.call 107 [.t 12,.t 14,.t 16])),(8,mV 6 17)]) (.seq (sR [mV 18 6,oP 19 (.bin .lss (.t 18) (.c i0))] (cD 19 (.seq (.drw [0,1,3,7,0,16,63,127,255,255,255,511,3071,8191] [(0,mV 21 0),(1,oP 22 (.nilc (.t 21))),(2,fD 23 0 22),(3,lD 24 1 23),(4,fD 25 1 3),(5,lA 26 2 25),(6,oP 27 (.call 167 [.t 24,.t 26])),(7,mV 20 27),(8,eX 28 20 0),(9,eX 29 20 1),(10,eX 30 20 2),(11,mV 7 28),(12,mV 8 29),(13,mV 9 30)]) (.seq (sR [mV 31 9,oP 32 (.un .not (.t 31)),mV 33 32,gF 34 33 (.mv (.t 0)),gF 35 33 (.nilc (.t 34)),gF 36 33 (.fad 1 (.t 35)),gF 37 33 (.ld 1 false (.t 36)),gF 38 33 (.len (.t 37)),gF 39 33 (.bin .geq (.t 38) (cI 4)),pT 40 33 39] (cD 40 (sR [oP 41 (.build [i0,i0,i0,i0,i0,i0,s0] []),nP (.sto 7 (.t 4) (.t 41)),oP 5 (.mv cF)] .ret) .skip)) (sR [mV 42 0,oP 43 (.nilc (.t 42)),fD 44 1 43,lD 45 1 44,oP 46 (.len (.t 45)),mV 6 46] (sR [mV 47 0,mV 48 7,oP 49 (.nilc (.t 47)),fD 50 0 49,nP (.sto 1 (.t 50) (.t 48))] (.drw [0,0,2,6,14,0,32,0,128,480,992,2046,4095,8191,16383] [(0,mV 51 0),(1,mV 52 0),(2,oP 53 (.nilc (.t 52))),(3,fD 54 1 53),(4,lD 55 1 54),(5,fD 56 1 3),(6,lA 57 2 56),(7,fD 58 3 3),(8,lA 59 2 58),(9,oP 60 (.build [i0,i0,i0,i0,s0,.nils,s0,.nils] [(0,(2,.t 57)),(2,(2,.t 59))])),(10,oP 61 (.bsl 130 8 [.t 60])),(11,oP 62 (.app 130 8 (.t 55) (.t 61))),(12,oP 63 (.nilc (.t 51))),(13,fD 64 1 63),(14,nP (.sto 1 (.t 64) (.t 62)))]))))) .skip)) (.seq (.drw [0,1,3,7,0,16,63,127,255,511] [(0,mV 65 0),(1,oP 66 (.nilc (.t 65))),(2,fD 67 0 66),(3,lD 68 1 67),(4,fD 69 1 3),(5,lA 70 2 69),(6,oP 71 (.call 105 [.t 68,.t 70])),(7,oP 72 (.build [i0,i0] [(0,(1,cI 9)),(1,(1,.t 71))])),(8,fD 73 1 3),(9,nP (.sto 2 (.t 73) (.t 72)))]) (.seq (sR [fD 74 0 3,lD 75 1 74,oP 76 (.bin .eql (.t 75) (cI 2))] (cD 76 (.seq (.drw [0,1,3,7,0,31,63,127,0,511,1023,1023,4095,8191] [(0,mV 77 0),(1,oP 78 (.nilc (.t 77))),(2,fD 79 1 78),(3,lD 80 1 79),(4,mV 81 6),(5,oP 82 (.iad 8 (.t 80) (.t 81))),(6,fD 83 6 82),(7,lA 84 2 83),(8,lA 85 7 3),(9,oP 86 (.call 168 [.t 84,.t 85])),(10,eX 87 86 0),(11,eX 88 86 1),(12,nP (.sto 7 (.t 4) (.t 87))),(13,mV 5 88)]) .ret) .skip)) (.seq (.drw [0,0,2,6,14,0,62,126,0,511,1023,1023,4095,8191] [(0,mV 89 0),(1,mV 90 0),(2,oP 91 (.nilc (.t 90))),(3,fD 92 1 91),(4,lD 93 1 92),(5,mV 94 6),(6,oP 95 (.iad 8 (.t 93) (.t 94))),(7,fD 96 4 95),(8,lA 97 7 3),(9,oP 98 (.call 169 [.t 89,.t 96,.t 97,cT])),(10,eX 99 98 0),(11,eX 100 98 1),(12,nP (.sto 7 (.t 4) (.t 99))),(13,mV 5 100)]) .ret)))))
theorem dg147:Dg Tryz.prog 147 Tryz.f147 qvg [(.cell 4 7 true),(.t 5)]:=⟨Tryz.func147,by kernel_rfl,by kernel_rfl⟩
theorem qmv {d:Door} (hd:doorOk d=true):∀f∈d.flows,f.up.parts.length≤2000000∧f.down.parts.length≤2000000:=λf hf=>by
 obtain⟨k,hk⟩:=List.mem_iff_getElem?.1 hf
 obtain⟨_,_,h1,h2,_⟩:=q2n hd hk
 have:=(q0t h1).2.1
 have:=(q0t h2).2.1
 omega
def qsg:IC:=sR [oP 3 (.box 54 (.t 1)),oP 4 (.alloc 54 [i0,i0,i0,i0,i0,i0,s0]),oP 5 (.mv cF)] (.seq (.block 0 (sR [lA 7 7 3,oP 8 (.call 146 [.t 7]),mV 6 8] (cD 6 (sR [mV 9 0,lA 10 7 3,oP 11 (.call 147 [.t 9,.t 10]),eX 12 11 0,eX 13 11 1,nP (.sto 7 (.t 4) (.t 12)),mV 5 13] .ret) (sR [lA 15 7 3,oP 16 (.call 86 [.t 15]),mV 14 16] (cD 14 (sR [mV 17 0,lA 18 7 3,oP 19 (.call 148 [.t 17,.t 18]),eX 20 19 0,eX 21 19 1,nP (.sto 7 (.t 4) (.t 20)),mV 5 21] .ret) .skip))))) (sR [oP 22 (.build [i0,i0,i0,i0,i0,i0,s0] []),nP (.sto 7 (.t 4) (.t 22)),oP 5 (.mv cF)] .ret))
theorem dg122:Dg Tryz.prog 122 Tryz.f122 qsg [(.cell 4 7 true),(.t 5)]:=⟨Tryz.func122,by kernel_rfl,by kernel_rfl⟩
theorem k62 (rows:List (List V)) (fs:List Flw) (hr:rows.length≤2000000) (hf:fs.length≤1000000) (h:∀f∈fs,f.up.parts.length≤2000000∧f.down.parts.length≤2000000) :
 FnP Tryz.prog G 62 0 [] [.agg [.sl 3 rows,.sl 8 (fs.map Flw.row)]] (λr o=>r=.agg [.sl 3 rows,.own 0 fs.length]∧o=[.arr 130 8 (fs.map Flw.row)]):=by
 refine mP dg62 Tryz.ntmps62 ⟨_,_,rfl,rfl⟩ ?_
 simp only[ic62,go_sem]
 with_reducible repeat' (first|refine br ?_ ?_<;>intro h e<;>(try simp only[e,go_sem])<;>clear e|rw[q00 (by omega)]|refine sd ?_<;>try simp only[go_sem]|fail)
 refine q14 (c112 rows hr) [] 8 1 (by simp only[go_sem];first|done|simp) (by simp) (by rintro _ _ ⟨rfl,rfl⟩;simp) (by intro i hi;obtain rfl:i=0:=(by omega);simp only[go_sem]) ?_
 rintro _ _ ⟨rfl,rfl⟩
 simp only[go_sem]
 with_reducible repeat' (first|refine br ?_ ?_<;>intro h e<;>(try simp only[e,go_sem])<;>clear e|rw[q00 (by omega)]|refine sd ?_<;>try simp only[go_sem]|fail)
 refine q0d (λk:Nat=>⟨q0e [(2,.pv 3000002 0),(3,.pv 3000003 0),(15,.sl 8 (fs.map Flw.row)),(16,.int .i64 fs.length),(17,.int .i64 (k:Int))],q01 [(3000002,.var 35 [.nils,.nils]),(3000003,.var 35 [.own 100800 rows.length,.own 3000012 k]),(100800,.arr 132 3 rows),(3000012,.arr 130 8 ((fs.take k).map Flw.row))]⟩) (λk=>fs.length - k)
  (λk=>k≤fs.length) 0 (leQ []) (Nat.zero_le _) ?_
 intro k hk
 simp only[go_sem]
 by_cases h5:(k:Int)<fs.length
 ·have hil:k<fs.length:=by omega
  have hg:fs.getD k default=fs[k]:=by simp[List.getD,hil]
  have hlen:(fs.take k).length=k:=by simp;omega
  have c1:=c113 fs[k] (h _ (List.getElem_mem hil))
  simp only[eq_true h5,go_sem]
  with_reducible repeat' (first|refine br ?_ ?_<;>intro h e<;>(try simp only[e,go_sem,hg,hlen])<;>clear e|rw[q00 (by omega)]|refine sd ?_<;>try simp only[go_sem,hg,hlen]|(first|refine cr (c1 ..) ?_)<;>try simp only[go_sem,hg,hlen]|fail)
  refine⟨k+1,by omega,by omega,leN [(3000012,3000026)] ?_ ?_ (by simp[q0f]) (by simp only[go_sem])⟩
  ·simp only[go_sem];first|done|omega
  ·simp only[go_sem];rw[List.take_add_one,zE hil];simp only[Option.toList_some,List.map_append,List.map_cons,List.map_nil,Flw.row]
 ·simp only[eq_false h5,go_sem]
  have:k=fs.length:=by omega
  subst this
  rw[List.take_length]
  with_reducible repeat' (first|refine br ?_ ?_<;>intro h e<;>(try simp only[e,go_sem])<;>clear e|rw[q00 (by omega)]|refine sd ?_<;>try simp only[go_sem]|fail)
  refine q1h (.agg [.sl 3 rows,.own 0 fs.length]) [.arr 130 8 (fs.map Flw.row)] [(0,3000012)] ?_ ⟨rfl,rfl⟩ ?_ (by simp[q11,q0f]) (by simp only[go_sem])
  ·simp only[go_sem];first|done|simp
  ·simp only[go_sem]
def q6c (u:M.World) (m:List Pair) (fs:List Flw) (k:Nat) (p:Pk) (out:Bool) (r:V) (o:List Hs):Prop :=
 ((put m (fs.getD k default).up p.at_ p.text out).2.2=false∧r=.tup [.agg (Pk.row .zero),.bool false]∧o=[.var 38 [.own 2 u.convs.length,.sl 3 (m.map Pair.row),.own 1 fs.length,.own 3 u.nets.length],.arr 130 8 (fs.map Flw.row),.arr 91 10 (u.convs.map Conv.row),.arr 54 7 (u.nets.map Pk.row)]) ∨
 ((put m (fs.getD k default).up p.at_ p.text out).2.2=true∧r=.tup [.agg (Pk.row (q3t (fs.getD k default).up (put m (fs.getD k default).up p.at_ p.text out).2.1 p).1),.bool (q3t (fs.getD k default).up (put m (fs.getD k default).up p.at_ p.text out).2.1 p).2] ∧
   o=[.var 38 [.own 2 u.convs.length,.sl 3 ((put m (fs.getD k default).up p.at_ p.text out).1.map Pair.row),.own 1 fs.length,.own 3 u.nets.length],.arr 130 8 ((fs.set k { fs.getD k default with up:=(put m (fs.getD k default).up p.at_ p.text out).2.1 }).map Flw.row),.arr 91 10 (u.convs.map Conv.row),.arr 54 7 (u.nets.map Pk.row)])
theorem qcr {u:M.World} {m:List Pair} {fs:List Flw} {k:Nat} {p:Pk} {out:Bool} {f:Flw} {m':List Pair} {s':Strm} (hf:fs.getD k default=f) (hP:put m f.up p.at_ p.text out=(m',s',false)) :
 q6c u m fs k p out (.tup [.agg (Pk.row .zero),.bool false]) [.var 38 [.own 2 u.convs.length,.sl 3 (m.map Pair.row),.own 1 fs.length,.own 3 u.nets.length],.arr 130 8 (fs.map Flw.row),.arr 91 10 (u.convs.map Conv.row),.arr 54 7 (u.nets.map Pk.row)]:=by
 unfold q6c
 rw[hf,hP]
 exact Or.inl ⟨rfl,rfl,rfl⟩
theorem q7d {u:M.World} {m:List Pair} {fs:List Flw} {k:Nat} {p:Pk} {out:Bool} {f:Flw} {m':List Pair} {s':Strm} (hf:fs.getD k default=f) (hP:put m f.up p.at_ p.text out=(m',s',true)) :
 q6c u m fs k p out (.tup [.agg (Pk.row (q3t f.up s' p).1),.bool (q3t f.up s' p).2]) [.var 38 [.own 2 u.convs.length,.sl 3 (m'.map Pair.row),.own 1 fs.length,.own 3 u.nets.length],.arr 130 8 ((fs.set k { f with up:=s' }).map Flw.row),.arr 91 10 (u.convs.map Conv.row),.arr 54 7 (u.nets.map Pk.row)]:=by
 unfold q6c
 rw[hf,hP]
 exact Or.inr ⟨rfl,rfl,rfl⟩
theorem qn9 (u:M.World) (m:List Pair) (fs:List Flw) (k:Nat) (p:Pk) (out:Bool) (hm:mapOk m=true) (hk:k<fs.length) (hs:strmOk (fs.getD k default).up=true) (hp:PkP p) (htx:txOk p.text=true) :
 FnP Tryz.prog G 169 4 [.var 38 [.own 2 u.convs.length,.sl 3 (m.map Pair.row),.own 1 fs.length,.own 3 u.nets.length],.arr 130 8 (fs.map Flw.row),.arr 91 10 (u.convs.map Conv.row),.arr 54 7 (u.nets.map Pk.row)] [.pv 0 1,.pa 1 k 4,.agg [.int .i64 p.kind,.int .i64 p.frm.a,.int .i64 p.frm.p,.int .i64 p.to.a,.int .i64 p.to.p,.int .i64 p.at_,.str p.text],.bool out] (q6c u m fs k p out):=by
 refine mP qvq Tryz.ntmps169 ?_ ?_
 ·cases hb:(put m (fs.getD k default).up p.at_ p.text out).2.2
  ·exact⟨_,_,.inl ⟨hb,rfl,rfl⟩⟩
  ·exact⟨_,_,.inr ⟨hb,rfl,rfl⟩⟩
 have hpa:=hp.at_
 have hpl:=hp.len
 have hpk:=q7h (m:=m) (s:=(fs.getD k default).up) (n:=p.at_) (t:=p.text) (out:=out) hm hs htx hpa.1
 have sb:=q0t hs
 obtain⟨s1,s2,s3⟩:=sb
 have f0:=c194 m (fs.getD k default).up p.at_ p.text out ⟨hm,hs,hpa,hpl⟩
 have gs:∀R,((fs.map Flw.row).set k R).getD k []=R:=λR=>by simp[List.getD,hk]
 generalize hf:fs.getD k default=f at *
 simp only[qow,go_sem,q03 hk,hf]
 with_reducible repeat' (first|refine br ?_ ?_<;>intro h e<;>(try simp only[e,go_sem,q03 hk,hf])<;>clear e|rw[q00 (by omega)]|refine sd ?_<;>try simp only[go_sem,q03 hk,hf]|fail)
 refine q0m f0 rfl rfl ?_
 have hml:=(q0b hpk.1).2
 have sb:=q0t hpk.2
 have so:=q4q sb
 have gr:∀a b,q1l (put m f.up p.at_ p.text out).2.1.parts p.at_=a→toR f.up (put m f.up p.at_ p.text out).2.1 p=b→q3t f.up (put m f.up p.at_ p.text out).2.1 p=({ p with at_:=a,text:=((sOut (put m f.up p.at_ p.text out).2.1).take (max b a).toNat).drop a.toNat },q0j (((sOut (put m f.up p.at_ p.text out).2.1).take (max b a).toNat).drop a.toNat).length 1 40):=λa b ha hb=>by subst ha;subst hb;rfl
 have hto:toR f.up (put m f.up p.at_ p.text out).2.1 p=if f.up.inn.length<(put m f.up p.at_ p.text out).2.1.inn.length then((sOut (put m f.up p.at_ p.text out).2.1).length:Int) else q1l (put m f.up p.at_ p.text out).2.1.parts (min (p.at_+p.text.length) (put m f.up p.at_ p.text out).2.1.inn.length):=rfl
 have fo1:0≤q1l (put m f.up p.at_ p.text out).2.1.parts p.at_∧q1l (put m f.up p.at_ p.text out).2.1.parts p.at_≤(sOut (put m f.up p.at_ p.text out).2.1).length:=q4p _
 have fo2:0≤q1l (put m f.up p.at_ p.text out).2.1.parts (min (p.at_+p.text.length) f.up.inn.length)∧q1l (put m f.up p.at_ p.text out).2.1.parts (min (p.at_+p.text.length) f.up.inn.length)≤(sOut (put m f.up p.at_ p.text out).2.1).length:=q4p _
 have hinn:f.up.inn.length≤(put m f.up p.at_ p.text out).2.1.inn.length:=qiy ..
 generalize hP:put m f.up p.at_ p.text out=P at *
 obtain⟨m',s',ok⟩:=P
 simp only at hpk hml sb so gr hto fo1 fo2 hinn
 cases ok<;>simp only[go_sem]
 ·with_reducible repeat' (first|refine br ?_ ?_<;>intro h e<;>(try simp only[e,go_sem])<;>clear e|rw[q00 (by omega)]|refine sd ?_<;>try simp only[go_sem]|fail)
  refine q1h (.tup [.agg (Pk.row .zero),.bool false]) [.var 38 [.own 2 u.convs.length,.sl 3 (m.map Pair.row),.own 1 fs.length,.own 3 u.nets.length],.arr 130 8 (fs.map Flw.row),.arr 91 10 (u.convs.map Conv.row),.arr 54 7 (u.nets.map Pk.row)] [] ?_ (qcr hf hP) ?_ (by simp[q11,q0f]) (by simp only[go_sem])
  ·simp only[go_sem,Pk.zero,E.zero]
  ·simp only[go_sem]
 have f1:=r112 (m'.map Pair.row) (by simp;omega)
 have f2:=c192 s' sb
 have f3:=c195 s' p.at_ sb (by omega)
 have f4:=c195 s' (min (p.at_+p.text.length) f.up.inn.length) sb (by omega)
 generalize hA:q1l s'.parts p.at_=A at *
 generalize hB:q1l s'.parts (min (p.at_+p.text.length) f.up.inn.length)=Bb at *
 with_reducible repeat' (first|refine br ?_ ?_<;>intro h e<;>(try simp only[e,go_sem,q03 hk,hf,gs])<;>clear e|rw[q00 (by omega)]|refine sd ?_<;>try simp only[go_sem,q03 hk,hf,gs]|(first|refine cr (f1 ..) ?_|refine cr (f2 ..) ?_|refine cr (f3 ..) ?_|refine cr (f4 ..) ?_|refine cr (c27 ..) ?_)<;>try simp only[go_sem,q03 hk,hf,gs]|fail)
 ·have hto':toR f.up s' p=Bb:=by rw[hto,if_neg (by omega),←hB];congr 2
  have g:=gr A _ rfl hto'
  refine q1h (.tup [.agg (Pk.row (q3t f.up s' p).1),.bool (q3t f.up s' p).2]) [.var 38 [.own 2 u.convs.length,.sl 3 (m'.map Pair.row),.own 1 fs.length,.own 3 u.nets.length],.arr 130 8 ((fs.set k { f with up:=s' }).map Flw.row),.arr 91 10 (u.convs.map Conv.row),.arr 54 7 (u.nets.map Pk.row)] [] ?_ (q7d hf hP) ?_ (by simp[q11,q0f]) (by simp only[go_sem])
  ·simp only[g,go_sem]
  ·simp only[go_sem,List.map_set]
 ·have hto':toR f.up s' p=((sOut s').length:Int):=by rw[hto,if_pos (by omega)]
  have g:=gr A _ rfl hto'
  refine q1h (.tup [.agg (Pk.row (q3t f.up s' p).1),.bool (q3t f.up s' p).2]) [.var 38 [.own 2 u.convs.length,.sl 3 (m'.map Pair.row),.own 1 fs.length,.own 3 u.nets.length],.arr 130 8 ((fs.set k { f with up:=s' }).map Flw.row),.arr 91 10 (u.convs.map Conv.row),.arr 54 7 (u.nets.map Pk.row)] [] ?_ (q7d hf hP) ?_ (by simp[q11,q0f]) (by simp only[go_sem])
  ·simp only[g,go_sem]
  ·simp only[go_sem,List.map_set]
def q4f (u:M.World) (m:List Pair) (fs:List Flw) (k:Nat) (p:Pk) (out:Bool) (r:V) (o:List Hs):Prop :=
 ((put m (fs.getD k default).down p.at_ p.text out).2.2=false∧r=.tup [.agg (Pk.row .zero),.bool false]∧o=[.var 38 [.own 2 u.convs.length,.sl 3 (m.map Pair.row),.own 1 fs.length,.own 3 u.nets.length],.arr 130 8 (fs.map Flw.row),.arr 91 10 (u.convs.map Conv.row),.arr 54 7 (u.nets.map Pk.row)]) ∨
 ((put m (fs.getD k default).down p.at_ p.text out).2.2=true∧r=.tup [.agg (Pk.row (q3t (fs.getD k default).down (put m (fs.getD k default).down p.at_ p.text out).2.1 p).1),.bool (q3t (fs.getD k default).down (put m (fs.getD k default).down p.at_ p.text out).2.1 p).2] ∧
   o=[.var 38 [.own 2 u.convs.length,.sl 3 ((put m (fs.getD k default).down p.at_ p.text out).1.map Pair.row),.own 1 fs.length,.own 3 u.nets.length],.arr 130 8 ((fs.set k { fs.getD k default with down:=(put m (fs.getD k default).down p.at_ p.text out).2.1 }).map Flw.row),.arr 91 10 (u.convs.map Conv.row),.arr 54 7 (u.nets.map Pk.row)])
theorem qbf {u:M.World} {m:List Pair} {fs:List Flw} {k:Nat} {p:Pk} {out:Bool} {f:Flw} {m':List Pair} {s':Strm} (hf:fs.getD k default=f) (hP:put m f.down p.at_ p.text out=(m',s',false)) :
 q4f u m fs k p out (.tup [.agg (Pk.row .zero),.bool false]) [.var 38 [.own 2 u.convs.length,.sl 3 (m.map Pair.row),.own 1 fs.length,.own 3 u.nets.length],.arr 130 8 (fs.map Flw.row),.arr 91 10 (u.convs.map Conv.row),.arr 54 7 (u.nets.map Pk.row)]:=by
 unfold q4f
 rw[hf,hP]
 exact Or.inl ⟨rfl,rfl,rfl⟩
theorem q5l {u:M.World} {m:List Pair} {fs:List Flw} {k:Nat} {p:Pk} {out:Bool} {f:Flw} {m':List Pair} {s':Strm} (hf:fs.getD k default=f) (hP:put m f.down p.at_ p.text out=(m',s',true)) :
 q4f u m fs k p out (.tup [.agg (Pk.row (q3t f.down s' p).1),.bool (q3t f.down s' p).2]) [.var 38 [.own 2 u.convs.length,.sl 3 (m'.map Pair.row),.own 1 fs.length,.own 3 u.nets.length],.arr 130 8 ((fs.set k { f with down:=s' }).map Flw.row),.arr 91 10 (u.convs.map Conv.row),.arr 54 7 (u.nets.map Pk.row)]:=by
 unfold q4f
 rw[hf,hP]
 exact Or.inr ⟨rfl,rfl,rfl⟩
theorem qjc (u:M.World) (m:List Pair) (fs:List Flw) (k:Nat) (p:Pk) (out:Bool) (hm:mapOk m=true) (hk:k<fs.length) (hs:strmOk (fs.getD k default).down=true) (hp:PkP p) (htx:txOk p.text=true) :
 FnP Tryz.prog G 169 4 [.var 38 [.own 2 u.convs.length,.sl 3 (m.map Pair.row),.own 1 fs.length,.own 3 u.nets.length],.arr 130 8 (fs.map Flw.row),.arr 91 10 (u.convs.map Conv.row),.arr 54 7 (u.nets.map Pk.row)] [.pv 0 1,.pa 1 k 6,.agg [.int .i64 p.kind,.int .i64 p.frm.a,.int .i64 p.frm.p,.int .i64 p.to.a,.int .i64 p.to.p,.int .i64 p.at_,.str p.text],.bool out] (q4f u m fs k p out):=by
 refine mP qvq Tryz.ntmps169 ?_ ?_
 ·cases hb:(put m (fs.getD k default).down p.at_ p.text out).2.2
  ·exact⟨_,_,.inl ⟨hb,rfl,rfl⟩⟩
  ·exact⟨_,_,.inr ⟨hb,rfl,rfl⟩⟩
 have hpa:=hp.at_
 have hpl:=hp.len
 have hpk:=q7h (m:=m) (s:=(fs.getD k default).down) (n:=p.at_) (t:=p.text) (out:=out) hm hs htx hpa.1
 have sb:=q0t hs
 obtain⟨s1,s2,s3⟩:=sb
 have f0:=c194 m (fs.getD k default).down p.at_ p.text out ⟨hm,hs,hpa,hpl⟩
 have gs:∀R,((fs.map Flw.row).set k R).getD k []=R:=λR=>by simp[List.getD,hk]
 generalize hf:fs.getD k default=f at *
 simp only[qow,go_sem,q03 hk,hf]
 with_reducible repeat' (first|refine br ?_ ?_<;>intro h e<;>(try simp only[e,go_sem,q03 hk,hf])<;>clear e|rw[q00 (by omega)]|refine sd ?_<;>try simp only[go_sem,q03 hk,hf]|fail)
 refine q0m f0 rfl rfl ?_
 have hml:=(q0b hpk.1).2
 have sb:=q0t hpk.2
 have so:=q4q sb
 have gr:∀a b,q1l (put m f.down p.at_ p.text out).2.1.parts p.at_=a→toR f.down (put m f.down p.at_ p.text out).2.1 p=b→q3t f.down (put m f.down p.at_ p.text out).2.1 p=({ p with at_:=a,text:=((sOut (put m f.down p.at_ p.text out).2.1).take (max b a).toNat).drop a.toNat },q0j (((sOut (put m f.down p.at_ p.text out).2.1).take (max b a).toNat).drop a.toNat).length 1 40):=λa b ha hb=>by subst ha;subst hb;rfl
 have hto:toR f.down (put m f.down p.at_ p.text out).2.1 p=if f.down.inn.length<(put m f.down p.at_ p.text out).2.1.inn.length then((sOut (put m f.down p.at_ p.text out).2.1).length:Int) else q1l (put m f.down p.at_ p.text out).2.1.parts (min (p.at_+p.text.length) (put m f.down p.at_ p.text out).2.1.inn.length):=rfl
 have fo1:0≤q1l (put m f.down p.at_ p.text out).2.1.parts p.at_∧q1l (put m f.down p.at_ p.text out).2.1.parts p.at_≤(sOut (put m f.down p.at_ p.text out).2.1).length:=q4p _
 have fo2:0≤q1l (put m f.down p.at_ p.text out).2.1.parts (min (p.at_+p.text.length) f.down.inn.length)∧q1l (put m f.down p.at_ p.text out).2.1.parts (min (p.at_+p.text.length) f.down.inn.length)≤(sOut (put m f.down p.at_ p.text out).2.1).length:=q4p _
 have hinn:f.down.inn.length≤(put m f.down p.at_ p.text out).2.1.inn.length:=qiy ..
 generalize hP:put m f.down p.at_ p.text out=P at *
 obtain⟨m',s',ok⟩:=P
 simp only at hpk hml sb so gr hto fo1 fo2 hinn
 cases ok<;>simp only[go_sem]
 ·with_reducible repeat' (first|refine br ?_ ?_<;>intro h e<;>(try simp only[e,go_sem])<;>clear e|rw[q00 (by omega)]|refine sd ?_<;>try simp only[go_sem]|fail)
  refine q1h (.tup [.agg (Pk.row .zero),.bool false]) [.var 38 [.own 2 u.convs.length,.sl 3 (m.map Pair.row),.own 1 fs.length,.own 3 u.nets.length],.arr 130 8 (fs.map Flw.row),.arr 91 10 (u.convs.map Conv.row),.arr 54 7 (u.nets.map Pk.row)] [] ?_ (qbf hf hP) ?_ (by simp[q11,q0f]) (by simp only[go_sem])
  ·simp only[go_sem,Pk.zero,E.zero]
  ·simp only[go_sem]
 have f1:=r112 (m'.map Pair.row) (by simp;omega)
 have f2:=c192 s' sb
 have f3:=c195 s' p.at_ sb (by omega)
 have f4:=c195 s' (min (p.at_+p.text.length) f.down.inn.length) sb (by omega)
 generalize hA:q1l s'.parts p.at_=A at *
 generalize hB:q1l s'.parts (min (p.at_+p.text.length) f.down.inn.length)=Bb at *
 with_reducible repeat' (first|refine br ?_ ?_<;>intro h e<;>(try simp only[e,go_sem,q03 hk,hf,gs])<;>clear e|rw[q00 (by omega)]|refine sd ?_<;>try simp only[go_sem,q03 hk,hf,gs]|(first|refine cr (f1 ..) ?_|refine cr (f2 ..) ?_|refine cr (f3 ..) ?_|refine cr (f4 ..) ?_|refine cr (c27 ..) ?_)<;>try simp only[go_sem,q03 hk,hf,gs]|fail)
 ·have hto':toR f.down s' p=Bb:=by rw[hto,if_neg (by omega),←hB];congr 2
  have g:=gr A _ rfl hto'
  refine q1h (.tup [.agg (Pk.row (q3t f.down s' p).1),.bool (q3t f.down s' p).2]) [.var 38 [.own 2 u.convs.length,.sl 3 (m'.map Pair.row),.own 1 fs.length,.own 3 u.nets.length],.arr 130 8 ((fs.set k { f with down:=s' }).map Flw.row),.arr 91 10 (u.convs.map Conv.row),.arr 54 7 (u.nets.map Pk.row)] [] ?_ (q5l hf hP) ?_ (by simp[q11,q0f]) (by simp only[go_sem])
  ·simp only[g,go_sem]
  ·simp only[go_sem,List.map_set]
 ·have hto':toR f.down s' p=((sOut s').length:Int):=by rw[hto,if_pos (by omega)]
  have g:=gr A _ rfl hto'
  refine q1h (.tup [.agg (Pk.row (q3t f.down s' p).1),.bool (q3t f.down s' p).2]) [.var 38 [.own 2 u.convs.length,.sl 3 (m'.map Pair.row),.own 1 fs.length,.own 3 u.nets.length],.arr 130 8 ((fs.set k { f with down:=s' }).map Flw.row),.arr 91 10 (u.convs.map Conv.row),.arr 54 7 (u.nets.map Pk.row)] [] ?_ (q5l hf hP) ?_ (by simp[q11,q0f]) (by simp only[go_sem])
  ·simp only[g,go_sem]
  ·simp only[go_sem,List.map_set]
def qny (u:M.World) (x:Door×Option Pk) (r:V) (o:List Hs):Prop :=
 ∃q,r=.tup [.agg (Pk.row q),.bool x.2.isSome]∧(∀q',x.2=some q'→q=q')∧o=[.var 38 [.own 2 u.convs.length,.sl 3 (x.1.map.map Pair.row),.own 1 x.1.flows.length,.own 3 u.nets.length],.arr 130 8 (x.1.flows.map Flw.row),.arr 91 10 (u.convs.map Conv.row),.arr 54 7 (u.nets.map Pk.row)]
theorem q6u {u:M.World} {d:Door}:qny u (d,none) (.tup [.agg (Pk.row .zero),.bool false]) [.var 38 [.own 2 u.convs.length,.sl 3 (d.map.map Pair.row),.own 1 d.flows.length,.own 3 u.nets.length],.arr 130 8 (d.flows.map Flw.row),.arr 91 10 (u.convs.map Conv.row),.arr 54 7 (u.nets.map Pk.row)]:=⟨.zero,rfl,λq h=>(by simp at h),rfl⟩
theorem q88 {u:M.World} (d:Door) (q:Pk) (ok:Bool):qny u (d,if ok=true then some q else none) (.tup [.agg (Pk.row q),.bool ok]) [.var 38 [.own 2 u.convs.length,.sl 3 (d.map.map Pair.row),.own 1 d.flows.length,.own 3 u.nets.length],.arr 130 8 (d.flows.map Flw.row),.arr 91 10 (u.convs.map Conv.row),.arr 54 7 (u.nets.map Pk.row)] :=
 ⟨q,by cases ok<;>rfl,λq' h=>by cases ok<;>simp at h;exact h,rfl⟩
theorem w148 (u:M.World) (d:Door) (p:Pk) (hd:doorOk d=true) (hp:PkP p):FnP Tryz.prog G 148 1 [.var 38 [.own 2 u.convs.length,.sl 3 (d.map.map Pair.row),.own 1 d.flows.length,.own 3 u.nets.length],.arr 130 8 (d.flows.map Flw.row),.arr 91 10 (u.convs.map Conv.row),.arr 54 7 (u.nets.map Pk.row)]
 [.pv 0 1,.agg [.int .i64 p.kind,.int .i64 p.frm.a,.int .i64 p.frm.p,.int .i64 p.to.a,.int .i64 p.to.p,.int .i64 p.at_,.str p.text]] (qny u (dIn d p)):=by
 refine mP dg148 Tryz.ntmps148 ?_ ?_
 ·exact⟨_,_,(dIn d p).2.getD .zero,rfl,λq' h=>by rw[h];rfl,rfl⟩
 obtain⟨hm,hfl,_⟩:=q0c.1 hd
 obtain⟨hmp,hml⟩:=q0b hm
 have no:∀l mm,dIn d p=(d,none)→q0e l 4=.pv 3000004 0→q0e l 5=.bool false→q01 mm 3000004=.var 54 (Pk.row .zero)→q01 mm 0=.var 38 [.own 2 u.convs.length,.sl 3 (d.map.map Pair.row),.own 1 d.flows.length,.own 3 u.nets.length]→q01 mm 1=.arr 130 8 (d.flows.map Flw.row)→q01 mm 2=.arr 91 10 (u.convs.map Conv.row)→q01 mm 3=.arr 54 7 (u.nets.map Pk.row) →
  q6f [.cell 4 7 true,.t 5] 1 (qny u (dIn d p)) .ret ⟨q0e l,q01 mm⟩:=λl mm hx h1 h2 h3 h4 h5 h6 h7=>by
  rw[hx]
  refine q1h _ _ [] ?_ q6u ?_ (by simp[q11,q0f]) (by simp only[go_sem])
  ·simp only[go_sem,h1,h2,h3]
  ·simp only[go_sem,h4,h5,h6,h7]
 simp only[qw4,go_sem]
 have f0:=c170 d.map p.to.p (by omega)
 with_reducible repeat' (first|refine br ?_ ?_<;>intro h e<;>(try simp only[e,go_sem])<;>clear e|rw[q00 (by omega)]|refine sd ?_<;>try simp only[go_sem]|(first|refine cr (f0 ..) ?_)<;>try simp only[go_sem]|fail)
 cases hin:q0x d.map p.to.p with
 | none =>
   simp only[go_sem,Option.isSome_none,Option.getD_none,E.zero]
   with_reducible repeat' (first|refine br ?_ ?_<;>intro h e<;>(try simp only[e,go_sem])<;>clear e|rw[q00 (by omega)]|refine sd ?_<;>try simp only[go_sem]|fail)
   refine q34 (c107 (d.map.map Pair.row) d.flows ⟨0,0⟩ p.frm (by omega)) [1] false (by simp only[go_sem];first|done|simp[E.row,Pc.row,Pair.row,Part.row,Flw.row,Pk.row,Conv.row]) (by simp only[List.mem_singleton];rintro c rfl;rfl) rfl (.inr rfl) ?_
   simp only[go_sem]
   with_reducible repeat' (first|refine br ?_ ?_<;>intro h e<;>(try simp only[e,go_sem])<;>clear e|rw[q00 (by omega)]|refine sd ?_<;>try simp only[go_sem]|fail)
   exact no _ _ (qaw hin) (by simp only[go_sem]) (by simp only[go_sem]) (by simp only[go_sem,Pk.zero,E.zero]) (by simp only[go_sem]) (by simp only[go_sem]) (by simp only[go_sem]) (by simp only[go_sem])
 | some i =>
   simp only[go_sem,Option.isSome_some,Option.getD_some]
   with_reducible repeat' (first|refine br ?_ ?_<;>intro h e<;>(try simp only[e,go_sem])<;>clear e|rw[q00 (by omega)]|refine sd ?_<;>try simp only[go_sem]|fail)
   refine q34 (c107 (d.map.map Pair.row) d.flows i p.frm (by omega)) [1] false (by simp only[go_sem];first|done|simp[E.row,Pc.row,Pair.row,Part.row,Flw.row,Pk.row,Conv.row]) (by simp only[List.mem_singleton];rintro c rfl;rfl) rfl (.inr rfl) ?_
   simp only[go_sem]
   cases hf:q0y d.flows i p.frm with
   | none =>
     simp only[ixI,go_sem]
     with_reducible repeat' (first|refine br ?_ ?_<;>intro h e<;>(try simp only[e,go_sem])<;>clear e|rw[q00 (by omega)]|refine sd ?_<;>try simp only[go_sem]|fail)
     exact no _ _ (qal hin hf) (by simp only[go_sem]) (by simp only[go_sem]) (by simp only[go_sem,Pk.zero,E.zero]) (by simp only[go_sem]) (by simp only[go_sem]) (by simp only[go_sem]) (by simp only[go_sem])
   | some k =>
     obtain⟨hk,hke⟩:=qb8 hin hf
     rw[hke]
     have hg:d.flows.getD k default=Flw.at d k:=rfl
     have hfk:d.flows[k]?=some (Flw.at d k):=by simp[Flw.at,List.getD,hk]
     obtain⟨_,_,x6,x7,_⟩:=q2n hd hfk
     have s1:=q0t x6
     have hpa:=hp.at_
     have hpl:=hp.len
     have f1:=c168 (Flw.at d k).up { p with to:=i } s1 (by simp only;omega)
     have hlt:¬((k:Int)<0):=by omega
     simp only[ixI,go_sem,eq_false hlt]
     with_reducible repeat' (first|refine br ?_ ?_<;>intro h e<;>(try simp only[e,go_sem,q03 hk,hg])<;>clear e|rw[q00 (by omega)]|refine sd ?_<;>try simp only[go_sem,q03 hk,hg]|(first|refine cr (f1 ..) ?_)<;>try simp only[go_sem,q03 hk,hg]|fail)
     ·have hx:∀b,(q5i (Flw.at d k).up { p with to:=i }).2=b→inK d k i p=(d,if b then some (q5i (Flw.at d k).up { p with to:=i }).1 else none):=λb hb=>by
       subst hb
       have hk2:p.kind=2:=by assumption
       simp only[inK,q5i]
       rw[if_pos hk2]
       by_cases hc:p.at_>((sOut (Flw.at d k).up).length:Int)
       ·rw[if_pos hc,if_pos hc];rfl
       ·rw[if_neg hc,if_neg hc,hp.ack hk2,hk2];rfl
      generalize hA:q5i (Flw.at d k).up { p with to:=i }=A at *
      obtain⟨q,ok⟩:=A
      have hx:=hx _ rfl
      simp only at hx
      rw[hx]
      refine q1h (.tup [.agg (Pk.row q),.bool ok]) [.var 38 [.own 2 u.convs.length,.sl 3 (d.map.map Pair.row),.own 1 d.flows.length,.own 3 u.nets.length],.arr 130 8 (d.flows.map Flw.row),.arr 91 10 (u.convs.map Conv.row),.arr 54 7 (u.nets.map Pk.row)] [] ?_ ⟨q,by cases ok<;>rfl,λq' h=>by cases ok<;>simp at h;exact h,rfl⟩ ?_ (by simp[q11,q0f]) (by simp only[go_sem])
      ·simp only[go_sem]
      ·simp only[go_sem]
     have hk2:¬p.kind=2:=by assumption
     have htx:=hp.tx.resolve_left hk2
     refine q1k (qjc u d.map d.flows k { p with to:=i } false hm hk x7 ⟨hp.at_,hp.len,hp.tx,hp.ack,hp.kd⟩ htx) [0,1,2,3] [] true 60 4 (by simp only[go_sem];first|done|simp) (by simp only[go_sem];first|done|simp) (by simp) (by simp) (by simp) ?_ ?_ ?_
     ·rintro res out (⟨_,rfl,rfl⟩|⟨_,rfl,rfl⟩)
      ·exact⟨by simp,by simp,.inl rfl,λi hi=>by rcases(show i=0∨i=1∨i=2∨i=3 by omega) with rfl|rfl|rfl|rfl<;>simp[chH,q0h]⟩
      ·exact⟨by simp,by simp,.inl rfl,λi hi=>by rcases(show i=0∨i=1∨i=2∨i=3 by omega) with rfl|rfl|rfl|rfl<;>simp[chH,q0h]⟩
     ·intro i hi
      rcases(show i=0∨i=1∨i=2∨i=3 by omega) with rfl|rfl|rfl|rfl<;>simp only[go_sem]
     have hko:inK d k i p=if(put d.map (Flw.at d k).down p.at_ p.text false).2.2=false then(d,none)
      else(⟨d.map,d.flows.set k { Flw.at d k with down:=(put d.map (Flw.at d k).down p.at_ p.text false).2.1 }⟩,
       q23 (Flw.at d k).down (put d.map (Flw.at d k).down p.at_ p.text false).2.1 { p with to:=i }):=by
      simp only[inK];rw[if_neg hk2,qhz _ _ p i]
     have hpm:=qkf d.map (Flw.at d k).down p.at_ p.text
     rintro res out (⟨h,rfl,rfl⟩|⟨h,rfl,rfl⟩)
     all_goals
      simp only[hg] at h ⊢
      generalize hP:put d.map (Flw.at d k).down p.at_ p.text false=P at *
      obtain⟨m',s',ok'⟩:=P
      simp only at h hko hpm
      subst h
      subst hpm
      simp only[go_sem]
     ·rw[if_pos rfl] at hko
      rw[hko]
      with_reducible repeat' (first|refine br ?_ ?_<;>intro h e<;>(try simp only[e,go_sem])<;>clear e|rw[q00 (by omega)]|refine sd ?_<;>try simp only[go_sem]|fail)
      refine q1h _ _ [] ?_ q6u ?_ (by simp[q11,q0f]) (by simp only[go_sem])
      ·simp only[go_sem]
      ·simp only[go_sem]
     ·rw[if_neg (by simp),qb0] at hko
      rw[hko]
      with_reducible repeat' (first|refine br ?_ ?_<;>intro h e<;>(try simp only[e,go_sem])<;>clear e|rw[q00 (by omega)]|refine sd ?_<;>try simp only[go_sem]|fail)
      refine q1h _ _ [] ?_ (q88 ⟨d.map,d.flows.set k { Flw.at d k with down:=s' }⟩ _ _) ?_ (by simp[q11,q0f]) (by simp only[go_sem])
      ·simp only[go_sem]
      ·simp only[go_sem,List.map_set,List.length_set]
def outX (u:M.World) (x:Door×Option Pk) (r:V) (o:List Hs):Prop:=∃o',qny u x r o'∧∀c,HsW (chH o c) (chH o' c)
theorem q61 {u:M.World} {x:Door×Option Pk} {r:V} {o:List Hs} (h:qny u x r o):outX u x r o:=⟨o,h,λc=>HsW.refl _⟩
theorem qnq (u:M.World) (M:List Pair) (fs:List Flw) (i o:E):∀c,HsW (chH [.var 38 [.own 2 u.convs.length,.sl 3 (M.map Pair.row),.own 1 (fs++[Flw.mk i o .zero .zero]).length,.own 3 u.nets.length],.arr 130 8 (fs.map Flw.row++[[.int .i64 i.a,.int .i64 i.p,.int .i64 o.a,.int .i64 o.p,.str [],.nils,.str [],.nils]]),.arr 91 10 (u.convs.map Conv.row),.arr 54 7 (u.nets.map Pk.row)] c)
 (chH [.var 38 [.own 2 u.convs.length,.sl 3 (M.map Pair.row),.own 1 (fs++[Flw.mk i o .zero .zero]).length,.own 3 u.nets.length],.arr 130 8 ((fs++[Flw.mk i o .zero .zero]).map Flw.row),.arr 91 10 (u.convs.map Conv.row),.arr 54 7 (u.nets.map Pk.row)] c)
 | 0=>rfl
 | 1=>⟨rfl,rfl,qrh fs i o⟩
 | 2=>HsW.refl _
 | 3=>HsW.refl _
 | n+4=>rfl
theorem w147 (u:M.World) (d:Door) (p:Pk) (hd:doorOk d=true) (hp:PkP p) (hi:p.frm.inside=true) (ho:p.to.outside=true):FnP Tryz.prog G 147 1 [.var 38 [.own 2 u.convs.length,.sl 3 (d.map.map Pair.row),.own 1 d.flows.length,.own 3 u.nets.length],.arr 130 8 (d.flows.map Flw.row),.arr 91 10 (u.convs.map Conv.row),.arr 54 7 (u.nets.map Pk.row)]
 [.pv 0 1,.agg [.int .i64 p.kind,.int .i64 p.frm.a,.int .i64 p.frm.p,.int .i64 p.to.a,.int .i64 p.to.p,.int .i64 p.at_,.str p.text]] (qny u (q8y d p)):=by
 refine FnP.rowsOut (post:=outX u (q8y d p)) ?_ λr o h=>h
 refine mP dg147 Tryz.ntmps147 ?_ ?_
 ·exact⟨_,_,q61 ⟨(q8y d p).2.getD .zero,rfl,λq' h=>by rw[h];rfl,rfl⟩⟩
 obtain⟨hm,hfl,_⟩:=q0c.1 hd
 obtain⟨hmp,hml⟩:=q0b hm
 have hyes:=λok=>q86 hd hi ho ok
 have hout:=λok=>q7x (p:=p) ok (hyes ok).kl
 have hno:=λok=>qav (d:=d) (p:=p) ok
 simp only[qvg,go_sem]
 with_reducible repeat' (first|refine br ?_ ?_<;>intro h e<;>(try simp only[e,go_sem])<;>clear e|rw[q00 (by omega)]|refine sd ?_<;>try simp only[go_sem]|fail)
 refine q34 (c107 (d.map.map Pair.row) d.flows p.frm p.to (by omega)) [1] false (by simp only[go_sem];first|done|simp[E.row,Pc.row,Pair.row,Part.row,Flw.row,Pk.row,Conv.row]) (by simp only[List.mem_singleton];rintro c rfl;rfl) rfl (.inr rfl) ?_
 simp only[go_sem]
 cases hf:q0y d.flows p.frm p.to with
 | some k =>
   have hop:=q8e hf
   rw[hop] at hyes hout hno
   have hlt:¬((k:Int)<0):=by omega
   simp only[ixI,go_sem,eq_false hlt]
   obtain⟨x1,x2,x3,x4,x5,x6,x7,x8⟩:=hyes rfl
   have hout:=hout rfl
   simp only at x1 x2 x3 x4 x5 x6 x7 x8 hout
   rw[hout]
   have hg:d.flows.getD k default=Flw.at d k:=rfl
   rw[hg] at x6 x7
   have s2:=q0t x7
   have hpa:=hp.at_
   have hpl:=hp.len
   have f0:=qs0 d.map p.frm.a p.frm.p (by omega)
   have f1:=c168 (Flw.at d k).down { p with frm:=⟨9,portOf d.map p.frm⟩ } s2 (by simp only;omega)
   with_reducible repeat' (first|refine br ?_ ?_<;>intro h e<;>(try simp only[e,go_sem,q03 x4,hg])<;>clear e|rw[q00 (by omega)]|refine sd ?_<;>try simp only[go_sem,q03 x4,hg]|(first|refine cr (f0 ..) ?_|refine cr (f1 ..) ?_)<;>try simp only[go_sem,q03 x4,hg]|fail)
   ·have hx:∀b,(q5i (Flw.at d k).down { p with frm:=⟨9,portOf d.map p.frm⟩ }).2=b→q93 d k p=(d,if b then some (q5i (Flw.at d k).down { p with frm:=⟨9,portOf d.map p.frm⟩ }).1 else none):=λb hb=>by
     subst hb
     have hk2:p.kind=2:=by assumption
     simp only[q93,q5i]
     rw[if_pos hk2]
     by_cases hc:p.at_>((sOut (Flw.at d k).down).length:Int)
     ·rw[if_pos hc,if_pos hc];rfl
     ·rw[if_neg hc,if_neg hc,hp.ack hk2,hk2];rfl
    generalize hA:q5i (Flw.at d k).down { p with frm:=⟨9,portOf d.map p.frm⟩ }=A at *
    obtain⟨q,ok⟩:=A
    have hx:=hx _ rfl
    simp only at hx
    rw[hx]
    refine q1h _ _ [] ?_ (q61 (q88 d q ok)) ?_ (by simp[q11,q0f]) (by simp only[go_sem])
    ·simp only[go_sem]
    ·simp only[go_sem]
   have hk2:¬p.kind=2:=by assumption
   have htx:=hp.tx.resolve_left hk2
   refine q1k (qn9 u d.map d.flows k { p with frm:=⟨9,portOf d.map p.frm⟩ } true hm x4 x6 ⟨hp.at_,hp.len,hp.tx,hp.ack,hp.kd⟩ htx) [0,1,2,3] [] true 98 4 (by simp only[go_sem];first|done|simp) (by simp only[go_sem];first|done|simp) (by simp) (by simp) (by simp) ?_ ?_ ?_
   ·rintro res out (⟨_,rfl,rfl⟩|⟨_,rfl,rfl⟩)
    ·exact⟨by simp,by simp,.inl rfl,λi hi=>by rcases(show i=0∨i=1∨i=2∨i=3 by omega) with rfl|rfl|rfl|rfl<;>simp[chH,q0h]⟩
    ·exact⟨by simp,by simp,.inl rfl,λi hi=>by rcases(show i=0∨i=1∨i=2∨i=3 by omega) with rfl|rfl|rfl|rfl<;>simp[chH,q0h]⟩
   ·intro i hi
    rcases(show i=0∨i=1∨i=2∨i=3 by omega) with rfl|rfl|rfl|rfl<;>simp only[go_sem]
   have hko:q93 d k p=if(put d.map (Flw.at d k).up p.at_ p.text true).2.2=false then(d,none)
    else(⟨(put d.map (Flw.at d k).up p.at_ p.text true).1,d.flows.set k { Flw.at d k with up:=(put d.map (Flw.at d k).up p.at_ p.text true).2.1 }⟩,
     q23 (Flw.at d k).up (put d.map (Flw.at d k).up p.at_ p.text true).2.1 { p with frm:=⟨9,portOf d.map p.frm⟩ }):=by
    simp only[q93];rw[if_neg hk2,qa1 _ _ p ⟨9,portOf d.map p.frm⟩]
   rintro res out (⟨h,rfl,rfl⟩|⟨h,rfl,rfl⟩)
   all_goals
    simp only[hg] at h ⊢
    generalize hP:put d.map (Flw.at d k).up p.at_ p.text true=P at *
    obtain⟨m',s',ok'⟩:=P
    simp only at h hko
    subst h
    simp only[go_sem]
   ·rw[if_pos rfl] at hko
    rw[hko]
    with_reducible repeat' (first|refine br ?_ ?_<;>intro h e<;>(try simp only[e,go_sem])<;>clear e|rw[q00 (by omega)]|refine sd ?_<;>try simp only[go_sem]|fail)
    refine q1h _ _ [] ?_ (q61 q6u) ?_ (by simp[q11,q0f]) (by simp only[go_sem])
    ·simp only[go_sem]
    ·simp only[go_sem]
   ·rw[if_neg (by simp),qb0] at hko
    rw[hko]
    with_reducible repeat' (first|refine br ?_ ?_<;>intro h e<;>(try simp only[e,go_sem])<;>clear e|rw[q00 (by omega)]|refine sd ?_<;>try simp only[go_sem]|fail)
    refine q1h _ _ [] ?_ (q61 (q88 ⟨m',d.flows.set k { Flw.at d k with up:=s' }⟩ _ _)) ?_ (by simp[q11,q0f]) (by simp only[go_sem])
    ·simp only[go_sem]
    ·simp only[go_sem,List.map_set,List.length_set]
 | none =>
   simp only[ixI,go_sem]
   with_reducible repeat' (first|refine br ?_ ?_<;>intro h e<;>(try simp only[e,go_sem])<;>clear e|rw[q00 (by omega)]|refine sd ?_<;>try simp only[go_sem]|fail)
   have f9:=c167 d.map p.frm.a p.frm.p hmp (by omega)
   have no:∀l mm,q8y d p=(d,none)→q0e l 4=.pv 3000004 0→q0e l 5=.bool false→q01 mm 3000004=.var 54 (Pk.row .zero)→q01 mm 0=.var 38 [.own 2 u.convs.length,.sl 3 (d.map.map Pair.row),.own 1 d.flows.length,.own 3 u.nets.length]→q01 mm 1=.arr 130 8 (d.flows.map Flw.row)→q01 mm 2=.arr 91 10 (u.convs.map Conv.row)→q01 mm 3=.arr 54 7 (u.nets.map Pk.row) →
    q6f [.cell 4 7 true,.t 5] 1 (outX u (q8y d p)) .ret ⟨q0e l,q01 mm⟩:=λl mm hx h1 h2 h3 h4 h5 h6 h7=>by
    rw[hx]
    refine q1h _ _ [] ?_ (q61 q6u) ?_ (by simp[q11,q0f]) (by simp only[go_sem])
    ·simp only[go_sem,h1,h2,h3]
    ·simp only[go_sem,h4,h5,h6,h7]
   refine q0m f9 rfl rfl ?_
   simp only[go_sem]
   cases hok:(mOut d.map p.frm).2.2 with
   | false =>
     rw[qb9 hf hok] at hno
     simp only[go_sem]
     with_reducible repeat' (first|refine br ?_ ?_<;>intro h e<;>(try simp only[e,go_sem])<;>clear e|rw[q00 (by omega)]|refine sd ?_<;>try simp only[go_sem]|fail)
     exact no _ _ (hno rfl) (by simp only[go_sem]) (by simp only[go_sem]) (by simp only[go_sem,Pk.zero,E.zero]) (by simp only[go_sem]) (by simp only[go_sem]) (by simp only[go_sem]) (by simp only[go_sem])
   | true =>
     simp only[go_sem]
     with_reducible repeat' (first|refine br ?_ ?_<;>intro h e<;>(try simp only[e,go_sem])<;>clear e|rw[q00 (by omega)]|refine sd ?_<;>try simp only[go_sem]|fail)
     ·rw[q6x hf (by omega)] at hno
      exact no _ _ (hno rfl) (by simp only[go_sem]) (by simp only[go_sem]) (by simp only[go_sem,Pk.zero,E.zero]) (by simp only[go_sem]) (by simp only[go_sem]) (by simp only[go_sem]) (by simp only[go_sem])
     rw[q6q hf hok (by omega)] at hyes hout
     obtain⟨x1,x2,x3,x4,x5,x6,x7,x8⟩:=hyes rfl
     have hout:=hout rfl
     simp only at x1 x2 x3 x4 x5 x6 x7 x8 hout
     rw[hout]
     have hm2:=(q0b x1).2
     have hpa:=hp.at_
     have hpl:=hp.len
     have hg:Flw.at ⟨(mOut d.map p.frm).1,d.flows++[Flw.mk p.frm p.to .zero .zero]⟩ d.flows.length=Flw.mk p.frm p.to .zero .zero:=by simp[Flw.at,List.getD]
     have hx:∀R:List V,((d.flows.map Flw.row)++[R]).getD d.flows.length []=R:=λR=>qh8 _ _ (by simp) _
     have f0:=qs0 (mOut d.map p.frm).1 p.frm.a p.frm.p (by omega)
     generalize hM:(mOut d.map p.frm).1=M at *
     with_reducible repeat' (first|refine br ?_ ?_<;>intro h e<;>(try simp only[e,go_sem,hx])<;>clear e|rw[q00 (by omega)]|refine sd ?_<;>try simp only[go_sem,hx]|(first|refine cr (f0 ..) ?_)<;>try simp only[go_sem,hx]|fail)
     all_goals
      refine effG (by simp only[zA,List.length_map,zC,zN];omega) ?_
      simp only[go_sem,hx]
      with_reducible repeat' (first|refine br ?_ ?_<;>intro h e<;>(try simp only[e,go_sem,hx])<;>clear e|rw[q00 (by omega)]|refine sd ?_<;>try simp only[go_sem,hx]|fail)
     ·have f1:=c168 .zero { p with frm:=⟨9,portOf M p.frm⟩ } (q0t q3k) (by simp only;omega)
      refine q34 f1 [] true (by simp only[go_sem,Strm.zero]) (by simp) rfl (.inl rfl) ?_
      simp only[go_sem]
      with_reducible repeat' (first|refine br ?_ ?_<;>intro h e<;>(try simp only[e,go_sem,hx])<;>clear e|rw[q00 (by omega)]|refine sd ?_<;>try simp only[go_sem,hx]|fail)
      have hx2:∀b,(q5i .zero { p with frm:=⟨9,portOf M p.frm⟩ }).2=b→q93 ⟨M,d.flows++[Flw.mk p.frm p.to .zero .zero]⟩ d.flows.length p=(⟨M,d.flows++[Flw.mk p.frm p.to .zero .zero]⟩,if b then some (q5i .zero { p with frm:=⟨9,portOf M p.frm⟩ }).1 else none):=λb hb=>by
       subst hb
       have hk2:p.kind=2:=by assumption
       simp only[q93,q5i,hg]
       rw[if_pos hk2]
       by_cases hc:p.at_>((sOut .zero).length:Int)
       ·rw[if_pos hc,if_pos hc];rfl
       ·rw[if_neg hc,if_neg hc,hp.ack hk2,hk2];rfl
      generalize hA:q5i .zero { p with frm:=⟨9,portOf M p.frm⟩ }=A at *
      obtain⟨q,ok⟩:=A
      have hx2:=hx2 _ rfl
      simp only at hx2
      rw[hx2]
      refine q1h _ _ [(1,3000062)] ?_ ⟨_,q88 ⟨M,d.flows++[Flw.mk p.frm p.to .zero .zero]⟩ q ok,qnq u M d.flows p.frm p.to⟩ ?_ (by simp[q11,q0f]) (by simp only[go_sem])
      ·simp only[go_sem]
      ·simp only[go_sem];simp
     have hk2:¬p.kind=2:=by assumption
     have htx:=hp.tx.resolve_left hk2
     refine q1k (FnP.rowsIn (qn9 u M (d.flows++[Flw.mk p.frm p.to .zero .zero]) d.flows.length { p with frm:=⟨9,portOf M p.frm⟩ } true x1 x4 x6 ⟨hp.at_,hp.len,hp.tx,hp.ack,hp.kd⟩ htx) (qnq u M d.flows p.frm p.to)) [0,3000062,2,3] [] true 98 4 (by simp only[go_sem];first|done|simp) (by simp only[go_sem];first|done|simp) (by simp) (by simp) (by simp) ?_ ?_ ?_
     ·rintro res out (⟨_,rfl,rfl⟩|⟨_,rfl,rfl⟩)
      ·exact⟨by simp,by simp,.inl rfl,λi hi=>by rcases(show i=0∨i=1∨i=2∨i=3 by omega) with rfl|rfl|rfl|rfl<;>simp[chH,q0h]⟩
      ·exact⟨by simp,by simp,.inl rfl,λi hi=>by rcases(show i=0∨i=1∨i=2∨i=3 by omega) with rfl|rfl|rfl|rfl<;>simp[chH,q0h]⟩
     ·intro i hi
      rcases(show i=0∨i=1∨i=2∨i=3 by omega) with rfl|rfl|rfl|rfl<;>simp only[go_sem]
     have hgd:(d.flows++[Flw.mk p.frm p.to .zero .zero]).getD d.flows.length default=Flw.mk p.frm p.to .zero .zero:=hg
     have hko:q93 ⟨M,d.flows++[Flw.mk p.frm p.to .zero .zero]⟩ d.flows.length p=if(put M .zero p.at_ p.text true).2.2=false then(⟨M,d.flows++[Flw.mk p.frm p.to .zero .zero]⟩,none)
      else(⟨(put M .zero p.at_ p.text true).1,(d.flows++[Flw.mk p.frm p.to .zero .zero]).set d.flows.length { Flw.mk p.frm p.to .zero .zero with up:=(put M .zero p.at_ p.text true).2.1 }⟩,
       q23 .zero (put M .zero p.at_ p.text true).2.1 { p with frm:=⟨9,portOf M p.frm⟩ }):=by
      simp only[q93,hg];rw[if_neg hk2,qa1 _ _ p ⟨9,portOf M p.frm⟩]
     rintro res out (⟨h,rfl,rfl⟩|⟨h,rfl,rfl⟩)
     all_goals
      simp only[hgd] at h ⊢
      generalize hP:put M .zero p.at_ p.text true=P at *
      obtain⟨m',s',ok'⟩:=P
      simp only at h hko
      subst h
      simp only[go_sem]
     ·rw[if_pos rfl] at hko
      rw[hko]
      with_reducible repeat' (first|refine br ?_ ?_<;>intro h e<;>(try simp only[e,go_sem])<;>clear e|rw[q00 (by omega)]|refine sd ?_<;>try simp only[go_sem]|fail)
      refine q1h _ _ [(1,3000062)] ?_ (q61 q6u) ?_ (by simp[q11,q0f]) (by simp only[go_sem])
      ·simp only[go_sem]
      ·simp only[go_sem]
     ·rw[if_neg (by simp),qb0] at hko
      rw[hko]
      with_reducible repeat' (first|refine br ?_ ?_<;>intro h e<;>(try simp only[e,go_sem])<;>clear e|rw[q00 (by omega)]|refine sd ?_<;>try simp only[go_sem]|fail)
      refine q1h _ _ [(1,3000062)] ?_ (q61 (q88 ⟨m',(d.flows++[Flw.mk p.frm p.to .zero .zero]).set d.flows.length { Flw.mk p.frm p.to .zero .zero with up:=s' }⟩ _ _)) ?_ (by simp[q11,q0f]) (by simp only[go_sem])
      ·simp only[go_sem]
      ·simp only[go_sem,List.map_set,List.length_set]
theorem w122 (u:M.World) (d:Door) (p:Pk) (hd:doorOk d=true) (hp:PkP p):FnP Tryz.prog G 122 1 [.var 38 [.own 2 u.convs.length,.sl 3 (d.map.map Pair.row),.own 1 d.flows.length,.own 3 u.nets.length],.arr 130 8 (d.flows.map Flw.row),.arr 91 10 (u.convs.map Conv.row),.arr 54 7 (u.nets.map Pk.row)]
 [.pv 0 1,.agg [.int .i64 p.kind,.int .i64 p.frm.a,.int .i64 p.frm.p,.int .i64 p.to.a,.int .i64 p.to.p,.int .i64 p.at_,.str p.text]] (qny u (q1o d p)):=by
 refine mP dg122 Tryz.ntmps122 ?_ ?_
 ·exact⟨_,_,(q1o d p).2.getD .zero,rfl,λq' h=>by rw[h];rfl,rfl⟩
 have b1:=c146 p
 have b2:=c86 p
 simp only[qsg,go_sem]
 with_reducible repeat' (first|refine br ?_ ?_<;>intro h e<;>(try simp only[e,go_sem])<;>clear e|rw[q00 (by omega)]|refine sd ?_<;>try simp only[go_sem]|(first|refine cr (b1 ..) ?_|refine cr (b2 ..) ?_)<;>try simp only[go_sem]|fail)
 ·have hx:q1o d p=q8y d p:=by simp_all[q1o]
  rw[hx]
  have hio:p.frm.inside=true∧p.to.outside=true:=by simp_all[Pk.outward]
  refine q1k (w147 u d p hd hp hio.1 hio.2) [0,1,2,3] [] true 11 4 (by simp only[go_sem];first|done|simp) (by simp only[go_sem];first|done|simp) (by simp) (by simp) (by simp) ?_ ?_ ?_
  ·rintro res out ⟨q,rfl,hq,rfl⟩
   exact⟨by simp,by simp,.inl rfl,λi hi=>by obtain rfl:i=0:=(by omega);simp[chH,q0h]⟩
  ·intro i hi
   rcases(show i=0∨i=1∨i=2∨i=3 by omega) with rfl|rfl|rfl|rfl<;>simp only[go_sem]
  rintro res out ⟨q,rfl,hq,rfl⟩
  simp only[go_sem]
  refine q1h _ _ [(1,101101),(2,101102),(3,101103)] ?_ ⟨q,rfl,hq,rfl⟩ ?_ (by simp[q11,q0f]) (by simp only[go_sem])
  ·simp only[go_sem]
  ·simp only[go_sem]
 ·have hx:q1o d p=dIn d p:=by simp_all[q1o]
  rw[hx]
  refine q1k (w148 u d p hd hp) [0,1,2,3] [] true 19 4 (by simp only[go_sem];first|done|simp) (by simp only[go_sem];first|done|simp) (by simp) (by simp) (by simp) ?_ ?_ ?_
  ·rintro res out ⟨q,rfl,hq,rfl⟩
   exact⟨by simp,by simp,.inl rfl,λi hi=>by obtain rfl:i=0:=(by omega);simp[chH,q0h]⟩
  ·intro i hi
   rcases(show i=0∨i=1∨i=2∨i=3 by omega) with rfl|rfl|rfl|rfl<;>simp only[go_sem]
  rintro res out ⟨q,rfl,hq,rfl⟩
  simp only[go_sem]
  refine q1h _ _ [(1,101901),(2,101902),(3,101903)] ?_ ⟨q,rfl,hq,rfl⟩ ?_ (by simp[q11,q0f]) (by simp only[go_sem])
  ·simp only[go_sem]
  ·simp only[go_sem]
 ·have hx:q1o d p=(d,none):=by simp_all[q1o]
  rw[hx]
  refine q1h _ _ [] ?_ q6u ?_ (by simp[q11,q0f]) (by simp only[go_sem])
  ·simp only[go_sem,Pk.zero,E.zero]
  ·simp only[go_sem]
def qw7:IC:=sR [oP 2 (.mv cF)] (sR [mV 3 0,oP 4 (.lens (.t 3)),oP 5 (.bin .leq (.t 4) (cI 24)),mV 6 5,gT 7 6 (.mv (.t 0)),gT 8 6 (.call 111 [.t 7]),pF 9 6 8,mV 10 9,gT 11 10 (.mv (.t 0)),gT 12 10 (.call 161 [.t 11]),gT 13 10 (.bin .eql (.t 12) (.c i0)),pF 14 10 13,mV 2 14] .ret)
theorem dg158:Dg Tryz.prog 158 Tryz.f158 qw7 [(.t 2)]:=⟨Tryz.func158,by kernel_rfl,by kernel_rfl⟩
theorem c158 (t:B) (hl:t.length≤2000000):FnR Tryz.prog G 158 [.str t] (.bool (q5n t)):=by
 refine mF dg158 Tryz.ntmps158 ?_
 simp only[qw7,go_sem]
 have c1:=qpd t hl
 have c2:=c161 t hl
 with_reducible repeat' (first|refine br ?_ ?_<;>intro h e<;>(try simp only[e,go_sem])<;>clear e|rw[q00 (by omega)]|refine sd ?_<;>try simp only[go_sem]|(first|refine cr (c1 ..) ?_|refine cr (c2 ..) ?_)<;>try simp only[go_sem]|fail)
 all_goals simp_all[q5n]
 all_goals omega
theorem q47 {α:Type} {P:α→Bool} {l:List α} (h:l.any P=false):l.findIdx? P=none:=List.findIdx?_eq_none_iff.2 λx hx=>by simpa using List.any_eq_false.1 h x hx
theorem q4j {α:Type} {P:α→Bool} {l:List α} {k:Nat} (hk:k<l.length) (h:(l.take k).any P=false) (hp:P l[k]=true):l.findIdx? P=some k:=by
 refine List.findIdx?_eq_some_iff_getElem.2 ⟨hk,hp,λj hj=>?_⟩
 have:=List.any_eq_false.1 h l[j] (List.mem_iff_getElem?.2 ⟨j,by rw[List.getElem?_take,if_pos hj];exact zE _⟩)
 simpa using this
theorem q5h {α:Type} {P:α→Bool} {l:List α} {k:Nat} (hk:k<l.length) (h:(l.take k).any P=false) (hp:P l[k]=false):(l.take (k+1)).any P=false:=by
 rw[List.take_add_one,zE hk]
 simp only[Option.toList_some,List.any_append,h,List.any_cons,List.any_nil,Bool.or_false,Bool.false_or,hp]
theorem qbe {α:Type} {P:α→Bool} {l:List α}:decide (0≤ixI (l.findIdx? P))=l.any P:=by
 cases h:l.any P with
 | false=>rw[q47 h];rfl
 | true =>
   obtain⟨x,hx,hp⟩:=List.any_eq_true.1 h
   cases hf:l.findIdx? P with
   | none=>have:=List.findIdx?_eq_none_iff.1 hf x hx;rw[hp] at this;cases this
   | some k=>simp[ixI]
def quw:IC:=sR [oP 4 (.mv (.c i0))] (.seq (sR [mV 6 0,oP 7 (.len (.t 6)),oP 8 (.mv (.c i0))] (.block 0 (.loop (sR [bN 9 .lss 8 7] (.seq (cD 9 .skip (.exit 0)) (.seq (.block 1 (sR [mV 10 8,mV 5 10] (sR [mV 11 1,mV 12 0,mV 13 5,oP 14 (.iad 2 (.t 12) (.t 13)),lA 15 2 14,oP 16 (.cal (.t 11) [.t 15])] (cD 16 (sR [mV 17 5,mV 4 17] .ret) .skip)))) (.reg [oP 18 (.bin .add (.t 8) (cI 1)),mV 8 18]))))))) (sR [oP 4 (.mv (.c (.int .i64 (-1))))] .ret))
theorem dg184:Dg Tryz.prog 184 Tryz.f184 quw [(.t 4)]:=⟨Tryz.func184,by kernel_rfl,by kernel_rfl⟩
theorem c184 (l:List E) (hl:l.length≤2000000):FnR Tryz.prog G 184 [.sl 2 (l.map E.row),.fn 114 []] (.int .i64 (ixI (l.findIdx? E.door))):=by
 refine mF dg184 Tryz.ntmps184 ?_
 simp only[quw,go_sem]
 refine q0d (λk:Nat=>⟨q0e [(0,.sl 2 (l.map E.row)),(1,.fn 114 []),(7,.int .i64 l.length),(8,.int .i64 (k:Int))],q01 []⟩) (λk=>l.length - k)
  (λk=>k≤l.length∧(l.take k).any E.door=false) 0 (leQ []) ⟨Nat.zero_le _,by simp⟩ ?_
 intro k ⟨hk,ha⟩
 simp only[go_sem]
 by_cases h:(k:Int)<l.length
 ·have hil:k<l.length:=by omega
  have hg:l.getD k default=l[k]:=by simp[List.getD,hil]
  have hy:=q4j hil ha
  have hs:=q5h hil ha
  simp only[eq_true h,go_sem]
  with_reducible repeat' (first|refine br ?_ ?_<;>intro h e<;>(try simp only[e,go_sem,hg])<;>clear e|rw[q00 (by omega)]|refine sd ?_<;>try simp only[go_sem,hg]|(first|refine cr (qjb ..) ?_)<;>try simp only[go_sem,hg]|fail)
  ·rw[hy (by assumption)];rfl
  ·exact⟨k+1,by omega,⟨by omega,hs (by assumption)⟩,(leQ [])⟩
 ·simp only[eq_false h,go_sem]
  have:k=l.length:=by omega
  subst this
  rw[List.take_length] at ha
  rw[q47 ha];rfl
def qyk:IC:=sR [oP 4 (.mv cF)] (sR [mV 5 0,mV 6 1,oP 7 (.call 184 [.t 5,.t 6]),oP 8 (.bin .geq (.t 7) (.c i0)),mV 4 8] .ret)
theorem dg159:Dg Tryz.prog 159 Tryz.f159 qyk [(.t 4)]:=⟨Tryz.func159,by kernel_rfl,by kernel_rfl⟩
theorem c159 (l:List E) (hl:l.length≤2000000):FnR Tryz.prog G 159 [.sl 2 (l.map E.row),.fn 114 []] (.bool (l.any E.door)):=by
 refine mF dg159 Tryz.ntmps159 ?_
 simp only[qyk,go_sem]
 refine q0m (c184 l hl) rfl rfl ?_
 simp only[go_sem,qbe]
theorem qjm {t:B} (hl:t.length≤2000000):(q1n t).length≤2000000:=by
 have h1:=q22 t
 have h2:=q7s (q1b t)
 unfold q1n;omega
def qzw:IC:=sR [oP 4 (.box 52 (.t 0)),oP 5 (.box 52 (.t 1)),oP 8 (.alloc 91 [i0,i0,i0,i0,s0,s0,i0,i0,s0,s0]),oP 9 (.mv cF)] (.seq (sR [lA 10 2 4,oP 11 (.call 121 [.t 10]),oP 12 (.un .not (.t 11)),mV 13 12,gF 14 13 (.ld 2 true (.t 5)),gF 15 13 (.call 106 [.t 14]),gF 16 13 (.un .not (.t 15)),pT 17 13 16,mV 18 17,gF 19 18 (.mv (.t 2)),gF 20 18 (.call 158 [.t 19]),gF 21 18 (.un .not (.t 20)),pT 22 18 21,mV 23 22,gF 24 23 (.mv (.t 3)),gF 25 23 (.call 158 [.t 24]),gF 26 23 (.un .not (.t 25)),pT 27 23 26,mV 28 27,gF 29 28 (.mv (.t 2)),gF 30 28 (.call 160 [.t 29]),gF 31 28 (.call 159 [.t 30,.c (.fn 114 [])]),pT 32 28 31] (cD 32 (sR [oP 33 (.build [i0,i0,i0,i0,s0,s0,i0,i0,s0,s0] []),nP (.sto 10 (.t 8) (.t 33)),oP 9 (.mv cF)] .ret) .skip)) (sR [lA 34 2 4,lA 35 2 5,mV 36 2,mV 37 3,oP 38 (.build [i0,i0,i0,i0,s0,s0,i0,i0,s0,s0] [(0,(2,.t 34)),(2,(2,.t 35)),(4,(1,.t 36)),(5,(1,.t 37))]),nP (.sto 10 (.t 8) (.t 38)),oP 9 (.mv cT)] .ret))
theorem dg135:Dg Tryz.prog 135 Tryz.f135 qzw [(.cell 8 10 true),(.t 9)]:=⟨Tryz.func135,by kernel_rfl,by kernel_rfl⟩
theorem c135 (i o:E) (up down:B) (h1:up.length≤2000000) (h2:down.length≤2000000):FnR Tryz.prog G 135 [.agg [.int .i64 i.a,.int .i64 i.p],.agg [.int .i64 o.a,.int .i64 o.p],.str up,.str down]
 (.tup [.agg (Conv.row ((q56 i o up down).getD .zero)),.bool (q56 i o up down).isSome]):=by
 refine mF dg135 Tryz.ntmps135 ?_
 simp only[qzw,go_sem]
 have c1:=c158 up h1
 have c2:=c158 down h2
 have c3:=c160 up h1
 have c4:=c159 (q1n up) (qjm h1)
 have ho:qt4 up=!(q1n up).any E.door:=rfl
 generalize (q1n up).any E.door=nd at *
 with_reducible repeat' (first|refine br ?_ ?_<;>intro h e<;>(try simp only[e,go_sem])<;>clear e|rw[q00 (by omega)]|refine sd ?_<;>try simp only[go_sem]|(first|refine cr (qs4 ..) ?_|refine cr (qyt ..) ?_|refine cr (c1 ..) ?_|refine cr (c2 ..) ?_|refine cr (c3 ..) ?_|refine cr (c4 ..) ?_)<;>try simp only[go_sem]|fail)
 all_goals simp_all[q56,Conv.zero,E.zero]
def qxu:IC:=sR [oP 1 (.box 91 (.t 0)),oP 2 (.mv cF)] (sR [fD 6 0 1,lA 7 2 6,fD 8 2 1,lA 9 2 8,fD 10 4 1,lD 11 1 10,fD 12 5 1,lD 13 1 12,oP 14 (.call 135 [.t 7,.t 9,.t 11,.t 13]),mV 5 14,eX 15 5 0,eX 16 5 1,oP 3 (.alloc 91 [i0,i0,i0,i0,s0,s0,i0,i0,s0,s0]),nP (.sto 10 (.t 3) (.t 15)),mV 4 16] (sR [mV 17 4,mV 18 17,gT 19 18 (.fad 6 (.t 1)),gT 20 18 (.ld 1 false (.t 19)),gT 21 18 (.fad 4 (.t 1)),gT 22 18 (.ld 1 false (.t 21)),gT 23 18 (.lens (.t 22)),gT 24 18 (.call 27 [.t 20,.c i0,.t 23]),pF 25 18 24,mV 26 25,gT 27 26 (.fad 7 (.t 1)),gT 28 26 (.ld 1 false (.t 27)),gT 29 26 (.fad 5 (.t 1)),gT 30 26 (.ld 1 false (.t 29)),gT 31 26 (.lens (.t 30)),gT 32 26 (.call 27 [.t 28,.c i0,.t 31]),pF 33 26 32,mV 34 33,gT 35 34 (.fad 8 (.t 1)),gT 36 34 (.ld 1 false (.t 35)),gT 37 34 (.call 111 [.t 36]),pF 38 34 37,mV 39 38,gT 40 39 (.fad 9 (.t 1)),gT 41 39 (.ld 1 false (.t 40)),gT 42 39 (.call 111 [.t 41]),pF 43 39 42,mV 2 43] .ret))
theorem dg102:Dg Tryz.prog 102 Tryz.f102 qxu [(.t 2)]:=⟨Tryz.func102,by kernel_rfl,by kernel_rfl⟩
theorem c102 (c:Conv) (h1:c.up.length≤2000000) (h2:c.down.length≤2000000) (h3:c.upGot.length≤2000000) (h4:c.downGot.length≤2000000):FnR Tryz.prog G 102 [.agg [.int .i64 c.ins.a,.int .i64 c.ins.p,.int .i64 c.out.a,.int .i64 c.out.p,.str c.up,.str c.down,.int .i64 c.upAck,.int .i64 c.downAck,.str c.upGot,.str c.downGot]] (.bool (convOk c)):=by
 refine mF dg102 Tryz.ntmps102 ?_
 simp only[qxu,go_sem]
 refine q0m (c135 c.ins c.out c.up c.down h1 h2) rfl rfl ?_
 simp only[go_sem]
 have c1:=qpd c.upGot h3
 have c2:=qpd c.downGot h4
 with_reducible repeat' (first|refine br ?_ ?_<;>intro h e<;>(try simp only[e,go_sem])<;>clear e|rw[q00 (by omega)]|refine sd ?_<;>try simp only[go_sem]|(first|refine cr (c27 ..) ?_|refine cr (c1 ..) ?_|refine cr (c2 ..) ?_)<;>try simp only[go_sem]|fail)
 all_goals simp_all[convOk]
theorem q3a {t:B} {n k:Int} (hn:0≤n) (hk:0≤k):(t.take (n+k).toNat).drop n.toNat=(t.drop n.toNat).take k.toNat:=by
 rw[List.drop_take];congr 1;omega
def qd1 (c o:Conv):Bool:=decide (o.ins=c.ins)||decide (o.out=c.out)
def qy3:IC:=sR [oP 2 (.box 91 (.t 0)),oP 3 (.mv cF)] (sR [fD 4 0 2,lA 5 2 4,fD 6 0 1,lA 7 2 6,oP 8 (.eqs false [.i,.i] (.t 5) (.t 7)),mV 9 8,gF 10 9 (.fad 2 (.t 2)),gF 11 9 (.ld 2 true (.t 10)),gF 12 9 (.fad 2 (.t 1)),gF 13 9 (.ld 2 true (.t 12)),gF 14 9 (.eqs false [.i,.i] (.t 11) (.t 13)),pT 15 9 14,mV 3 15] .ret)
theorem dg103:Dg Tryz.prog 103 Tryz.f103 qy3 [(.t 3)]:=⟨Tryz.func103,by kernel_rfl,by kernel_rfl⟩
theorem c103 (o c:Conv):FnR Tryz.prog G 103 [.agg [.int .i64 o.ins.a,.int .i64 o.ins.p,.int .i64 o.out.a,.int .i64 o.out.p,.str o.up,.str o.down,.int .i64 o.upAck,.int .i64 o.downAck,.str o.upGot,.str o.downGot],.iptr [.int .i64 c.ins.a,.int .i64 c.ins.p,.int .i64 c.out.a,.int .i64 c.out.p,.str c.up,.str c.down,.int .i64 c.upAck,.int .i64 c.downAck,.str c.upGot,.str c.downGot] 0] (.bool (qd1 c o)):=by
 refine mF dg103 Tryz.ntmps103 ?_
 simp only[qy3,go_sem,E.ext_iff']
 with_reducible repeat' (first|refine br ?_ ?_<;>intro h e<;>(try simp only[e,go_sem,E.ext_iff'])<;>clear e|rw[q00 (by omega)]|refine sd ?_<;>try simp only[go_sem,E.ext_iff']|fail)
 all_goals simp_all[qd1]
def qod:IC:=sR [oP 4 (.mv (.c i0))] (.seq (sR [mV 6 0,oP 7 (.len (.t 6)),oP 8 (.mv (.c i0))] (.block 0 (.loop (sR [bN 9 .lss 8 7] (.seq (cD 9 .skip (.exit 0)) (.seq (.block 1 (sR [mV 10 8,mV 5 10] (sR [mV 11 1,mV 12 0,mV 13 5,oP 14 (.iad 10 (.t 12) (.t 13)),lA 15 10 14,oP 16 (.cal (.t 11) [.t 15])] (cD 16 (sR [mV 17 5,mV 4 17] .ret) .skip)))) (.reg [oP 18 (.bin .add (.t 8) (cI 1)),mV 8 18]))))))) (sR [oP 4 (.mv (.c (.int .i64 (-1))))] .ret))
theorem qz2:Dg Tryz.prog 125 Tryz.f125 qod [(.t 4)]:=⟨Tryz.func125,by kernel_rfl,by kernel_rfl⟩
theorem c125T (l:List Conv) (c:Conv) (hl:l.length≤2000000):FnR Tryz.prog G 125 [.sl 10 (l.map Conv.row),.fn 103 [.iptr [.int .i64 c.ins.a,.int .i64 c.ins.p,.int .i64 c.out.a,.int .i64 c.out.p,.str c.up,.str c.down,.int .i64 c.upAck,.int .i64 c.downAck,.str c.upGot,.str c.downGot] 0]] (.int .i64 (ixI (l.findIdx? (qd1 c)))):=by
 refine mF qz2 Tryz.ntmps125 ?_
 simp only[qod,go_sem]
 refine q0d (λk:Nat=>⟨q0e [(0,.sl 10 (l.map Conv.row)),(1,.fn 103 [.iptr [.int .i64 c.ins.a,.int .i64 c.ins.p,.int .i64 c.out.a,.int .i64 c.out.p,.str c.up,.str c.down,.int .i64 c.upAck,.int .i64 c.downAck,.str c.upGot,.str c.downGot] 0]),(7,.int .i64 l.length),(8,.int .i64 (k:Int))],q01 []⟩) (λk=>l.length - k)
  (λk=>k≤l.length∧(l.take k).any (qd1 c)=false) 0 (leQ []) ⟨Nat.zero_le _,by simp⟩ ?_
 intro k ⟨hk,ha⟩
 simp only[go_sem]
 by_cases h:(k:Int)<l.length
 ·have hil:k<l.length:=by omega
  have hg:l.getD k default=l[k]:=by simp[List.getD,hil]
  have hy:=q4j hil ha
  have hs:=q5h hil ha
  simp only[eq_true h,go_sem]
  refine effG (by omega) ?_
  simp only[hg,go_sem]
  refine q0m (c103 l[k] c) rfl rfl ?_
  simp only[go_sem]
  with_reducible repeat' (first|refine br ?_ ?_<;>intro h e<;>(try simp only[e,go_sem])<;>clear e|rw[q00 (by omega)]|refine sd ?_<;>try simp only[go_sem]|fail)
  ·rw[hy (by assumption)];rfl
  ·exact⟨k+1,by omega,⟨by omega,hs (by assumption)⟩,(leQ [])⟩
 ·simp only[eq_false h,go_sem]
  have:k=l.length:=by omega
  subst this
  rw[List.take_length] at ha
  rw[q47 ha];rfl
def ic84:IC:=sR [oP 4 (.mv cF)] (sR [mV 5 0,mV 6 1,oP 7 (.call 125 [.t 5,.t 6]),oP 8 (.bin .geq (.t 7) (.c i0)),mV 4 8] .ret)
theorem dg84:Dg Tryz.prog 84 Tryz.f84 ic84 [(.t 4)]:=⟨Tryz.func84,by kernel_rfl,by kernel_rfl⟩
theorem c84T (l:List Conv) (c:Conv) (hl:l.length≤2000000):FnR Tryz.prog G 84 [.sl 10 (l.map Conv.row),.fn 103 [.iptr [.int .i64 c.ins.a,.int .i64 c.ins.p,.int .i64 c.out.a,.int .i64 c.out.p,.str c.up,.str c.down,.int .i64 c.upAck,.int .i64 c.downAck,.str c.upGot,.str c.downGot] 0]] (.bool (l.any (qd1 c))):=by
 refine mF dg84 Tryz.ntmps84 ?_
 simp only[ic84,go_sem]
 refine q0m (c125T l c hl) rfl rfl ?_
 simp only[go_sem,qbe]
theorem q84 {cs:List Conv} {k:Nat} (h:k<cs.length) (hb:q89 cs k=false):q1e cs=false:=by
 cases ht:q1e cs with
 | false=>rfl
 | true=>rw[(q2y.1 ht).2 k h] at hb;cases hb
def ic55:IC:=sR [oP 2 (.mv cF)] (.seq (sR [mV 5 0,oP 6 (.len (.t 5)),oP 7 (.mv (.c i0))] (.block 0 (.loop (sR [bN 8 .lss 7 6] (.seq (cD 8 .skip (.exit 0)) (.seq (.block 1 (sR [mV 9 7,oP 10 (.iad 10 (.t 5) (.t 7)),lA 11 10 10,oP 4 (.alloc 91 [i0,i0,i0,i0,s0,s0,i0,i0,s0,s0]),mV 3 9,nP (.sto 10 (.t 4) (.t 11))] (sR [lA 12 10 4,oP 13 (.call 102 [.t 12]),oP 14 (.un .not (.t 13)),mV 15 14,gF 16 15 (.mv (.t 0)),gF 17 15 (.mv (.t 3)),gF 18 15 (.slv 10 (.t 16) none (some (.t 17))),gF 19 15 (.mkf 103 [.t 4]),gF 20 15 (.call 84 [.t 18,.t 19]),pT 21 15 20] (cD 21 (sR [oP 2 (.mv cF)] .ret) .skip)))) (.reg [oP 22 (.bin .add (.t 7) (cI 1)),mV 7 22]))))))) (sR [mV 23 0,oP 24 (.len (.t 23)),oP 25 (.bin .leq (.t 24) (cI 2)),mV 2 25] .ret))
theorem dg55:Dg Tryz.prog 55 Tryz.f55 ic55 [(.t 2)]:=⟨Tryz.func55,by kernel_rfl,by kernel_rfl⟩
theorem c55 (cs:List Conv) (hl:cs.length≤2000000) (hB:∀c∈cs,(c.up.length≤2000000∧c.down.length≤2000000)∧c.upGot.length≤2000000∧c.downGot.length≤2000000):FnR Tryz.prog G 55 [.sl 10 (cs.map Conv.row)] (.bool (q1e cs)):=by
 refine mF dg55 Tryz.ntmps55 ?_
 simp only[ic55,go_sem]
 refine q0d (λi:Nat=>⟨q0e [(0,.sl 10 (cs.map Conv.row)),(5,.sl 10 (cs.map Conv.row)),(6,.int .i64 cs.length),(7,.int .i64 (i:Int))],q01 []⟩) (λi=>cs.length - i) (λi=>i≤cs.length∧∀j,j<i→q89 cs j=true) 0 (leQ []) ⟨Nat.zero_le _,by omega⟩ ?_
 intro i ⟨hi,ha⟩
 simp only[go_sem]
 by_cases h:(i:Int)<cs.length
 ·have hil:i<cs.length:=by omega
  have hg:cs.getD i default=cs[i]:=by simp[List.getD,hil]
  have hok:=qbc hil
  obtain⟨⟨b1,b2⟩,b3,b4⟩:=hB _ (List.getElem_mem hil)
  have c1:=c102 cs[i] b1 b2 b3 b4
  have c2:=c84T (cs.take i) cs[i] (by simp;omega)
  simp only[eq_true h,go_sem]
  with_reducible repeat' (first|refine br ?_ ?_<;>intro h e<;>(try simp only[e,go_sem,hg,q5z])<;>clear e|rw[q00 (by omega)]|refine sd ?_<;>try simp only[go_sem,hg,q5z]|(first|refine cr (c1 ..) ?_)<;>try simp only[go_sem,hg,q5z]|fail)
  ·exact q84 hil (by rw[hok];simp_all)
  refine q34 c2 [3000004] true (by simp only[go_sem,List.mem_cons,true_or,or_true]) (by simp only[List.mem_singleton];rintro c rfl;rfl) rfl (.inl rfl) ?_
  have he:(cs.take i).any (λo=>decide (o.ins=cs[i].ins)||decide (o.out=cs[i].out))=(cs.take i).any (qd1 cs[i]):=rfl
  rw[he] at hok
  generalize (cs.take i).any (qd1 cs[i])=b at *
  simp only[go_sem]
  cases b<;>simp only[go_sem]
  ·with_reducible repeat' (first|refine br ?_ ?_<;>intro h e<;>(try simp only[e,go_sem])<;>clear e|rw[q00 (by omega)]|refine sd ?_<;>try simp only[go_sem]|fail)
   refine⟨i+1,by omega,⟨by omega,λj hj=>?_⟩,(leQ [])⟩
   rcases Nat.lt_or_ge j i with hji|hji
   ·exact ha j hji
   ·obtain rfl:j=i:=by omega
    rw[hok];simp_all
  ·exact q84 hil (by rw[hok];simp_all)
 ·simp only[eq_false h,go_sem]
  have:i=cs.length:=by omega
  subst this
  with_reducible repeat' (first|refine br ?_ ?_<;>intro h e<;>(try simp only[e,go_sem])<;>clear e|rw[q00 (by omega)]|refine sd ?_<;>try simp only[go_sem]|fail)
  have h1:=q2y (cs:=cs)
  by_cases h2:cs.length≤2
  ·rw[h1.2 ⟨h2,ha⟩];exact(decide_eq_true (by omega)).symm
  ·have:q1e cs=false:=by
    cases ht:q1e cs with
    | false=>rfl
    | true=>exact absurd (h1.1 ht).1 h2
   rw[this];exact(decide_eq_false (by omega)).symm
theorem qe6:qgd []=some (.tup []):=rfl
theorem qeg {c:Conv} {up:Bool} {port n m:Int} (h:q0j n 0 ((bif up then c.up else c.down).length - 1)=false∨m<1∨(up=false∧(⟨9,port⟩:E).door=false)):say c up port n m=none:=by
 unfold say
 cases up<;>simp only[cond_true,cond_false] at h<;>simp only[Bool.false_eq_true,if_false,if_true]<;>rw[if_neg]<;>simp only[Bool.and_eq_true,decide_eq_true_eq,not_and,Bool.or_eq_true,Bool.false_eq_true,false_or,true_or,not_true_eq_false]
 ·rintro⟨h1,h2⟩ h3
  rcases h with h|h|h
  ·rw[h1] at h;cases h
  ·omega
  ·rw[h.2] at h3;cases h3
 ·rintro h1
  rcases h with h|h|h
  ·rw[h1.1] at h;cases h
  ·omega
  ·cases h.1
theorem qaj {c:Conv} {up:Bool} {port n m:Int} (h1:q0j n 0 ((bif up then c.up else c.down).length - 1)=true) (h2:1≤m) (h3:up=true∨(⟨9,port⟩:E).door=true) :
 say c up port n m=some (bif up then⟨1,c.ins,c.out,n,(c.up.drop n.toNat).take (min m (c.up.length - n)).toNat⟩ else⟨1,c.out,⟨9,port⟩,n,(c.down.drop n.toNat).take (min m (c.down.length - n)).toNat⟩):=by
 unfold say
 cases up<;>simp only[cond_true,cond_false] at h1 ⊢<;>simp only[Bool.false_eq_true,if_false,if_true]<;>rw[if_pos]
 ·simp only[h1,Bool.true_and,Bool.and_eq_true,decide_eq_true_eq,Bool.false_or]
  exact⟨h2,h3.resolve_left (by simp)⟩
 ·simp only[h1,Bool.true_and,Bool.and_eq_true,decide_eq_true_eq,Bool.true_or,and_true]
  exact h2
def ic66:IC:=sR [oP 5 (.box 91 (.t 0)),oP 10 (.alloc 54 [i0,i0,i0,i0,i0,i0,s0]),oP 11 (.mv cF)] (sR [fD 14 0 5,lA 15 2 14,fD 16 2 5,lA 17 2 16,mV 18 3,oP 19 (.build [i0,i0,i0,i0,i0,i0,s0] [(0,(1,cI 1)),(1,(2,.t 15)),(3,(2,.t 17)),(5,(1,.t 18))]),oP 12 (.alloc 54 [i0,i0,i0,i0,i0,i0,s0]),nP (.sto 7 (.t 12) (.t 19))] (sR [fD 20 4 5,lD 21 1 20,mV 13 21] (.seq (sR [mV 22 1,oP 23 (.un .not (.t 22))] (cD 23 (sR [fD 24 2 5,lA 25 2 24,mV 26 2,oP 27 (.build [i0,i0] [(0,(1,cI 9)),(1,(1,.t 26))]),fD 28 1 12,nP (.sto 2 (.t 28) (.t 25)),fD 29 3 12,nP (.sto 2 (.t 29) (.t 27))] (.reg [fD 30 5 5,lD 31 1 30,mV 13 31])) .skip)) (.seq (sR [mV 32 3,mV 33 13,oP 34 (.lens (.t 33)),oP 35 (.bin .sub (.t 34) (cI 1)),oP 36 (.call 27 [.t 32,.c i0,.t 35]),oP 37 (.un .not (.t 36)),mV 38 37,gF 39 38 (.mv (.t 4)),gF 40 38 (.bin .lss (.t 39) (cI 1)),pT 41 38 40,mV 42 41,gF 43 42 (.mv (.t 1)),gF 44 42 (.un .not (.t 43)),gF 45 42 (.mv (.t 44)),gT 46 45 (.fad 3 (.t 12)),gT 47 45 (.ld 2 true (.t 46)),gT 48 45 (.call 114 [.t 47]),gT 49 45 (.un .not (.t 48)),gF 50 42 (.pick (.t 45) (.t 49) cF),pT 51 42 50] (cD 51 (sR [oP 52 (.build [i0,i0,i0,i0,i0,i0,s0] []),nP (.sto 7 (.t 10) (.t 52)),oP 11 (.mv cF)] .ret) .skip)) (sR [mV 53 13,mV 54 3,mV 55 3,mV 56 4,mV 57 13,oP 58 (.lens (.t 57)),mV 59 3,bN 60 .sub 58 59,oP 61 (.mn (.t 56) (.t 60)),bN 62 .add 55 61,oP 63 (.sls (.t 53) (some (.t 54)) (some (.t 62))),fD 64 6 12,nP (.sto 1 (.t 64) (.t 63))] (sR [lA 65 7 12,nP (.sto 7 (.t 10) (.t 65)),oP 11 (.mv cT)] .ret))))))
theorem dg66:Dg Tryz.prog 66 Tryz.f66 ic66 [(.cell 10 7 true),(.t 11)]:=⟨Tryz.func66,by kernel_rfl,by kernel_rfl⟩
theorem c66 (c:Conv) (up:Bool) (port n m:Int) (h1:c.up.length≤2000000) (h2:c.down.length≤2000000):FnR Tryz.prog G 66 [.agg [.int .i64 c.ins.a,.int .i64 c.ins.p,.int .i64 c.out.a,.int .i64 c.out.p,.str c.up,.str c.down,.int .i64 c.upAck,.int .i64 c.downAck,.str c.upGot,.str c.downGot],.bool up,.int .i64 port,.int .i64 n,.int .i64 m]
 (.tup [.agg (Pk.row ((say c up port n m).getD .zero)),.bool (say c up port n m).isSome]):=by
 refine mF dg66 Tryz.ntmps66 ?_
 simp only[ic66,go_sem]
 cases up<;>simp only[go_sem]
 ·have hno:=λh=>qeg (c:=c) (up:=false) (port:=port) (n:=n) (m:=m) h
  have hyes:=λh1 h2 h3=>qaj (c:=c) (up:=false) (port:=port) (n:=n) (m:=m) h1 h2 h3
  simp only[cond_false,true_and,Bool.false_eq_true,false_or] at hno hyes
  rw[q00 (by omega)]
  refine q0m (c27 n 0 ((c.down.length:Int) - 1)) rfl rfl ?_
  cases hw:q0j n 0 ((c.down.length:Int) - 1)<;>simp only[go_sem]
  ·rw[hno (.inl hw)];simp[Pk.zero,E.zero]
  have hw2:=M.within_iff.1 hw
  have w1:IntKind.i64.wrap ((c.down.length:Int) - n)=c.down.length - n:=q00 (by omega)
  have w2:1≤m→IntKind.i64.wrap (n+min m ((c.down.length:Int) - n))=n+min m ((c.down.length:Int) - n):=λ_=>q00 (by omega)
  with_reducible repeat' (first|refine br ?_ ?_<;>intro h e<;>(try simp only[e,go_sem,w1])<;>clear e|rw[q00 (by omega)]|refine sd ?_<;>try simp only[go_sem,w1]|(first|refine cr (qjb ..) ?_)<;>try simp only[go_sem,w1]|fail)
  ·rw[hno (.inr (.inl (by assumption)))];simp[Pk.zero,E.zero]
  ·have w2:=w2 (by omega)
   rw[hyes hw (by omega) (by assumption),q3a (by omega) (by omega)]
   simp
  ·rw[hno (.inr (.inr (by assumption)))];simp[Pk.zero,E.zero]
 ·have hno:=λh=>qeg (c:=c) (up:=true) (port:=port) (n:=n) (m:=m) h
  have hyes:=λh1 h2 h3=>qaj (c:=c) (up:=true) (port:=port) (n:=n) (m:=m) h1 h2 h3
  simp only[cond_true,true_or,true_implies,Bool.true_eq_false,false_and,or_false] at hno hyes
  rw[q00 (by omega)]
  refine q0m (c27 n 0 ((c.up.length:Int) - 1)) rfl rfl ?_
  cases hw:q0j n 0 ((c.up.length:Int) - 1)<;>simp only[go_sem]
  ·rw[hno (.inl hw)];simp[Pk.zero,E.zero]
  have hw2:=M.within_iff.1 hw
  have w1:IntKind.i64.wrap ((c.up.length:Int) - n)=c.up.length - n:=q00 (by omega)
  have w2:1≤m→IntKind.i64.wrap (n+min m ((c.up.length:Int) - n))=n+min m ((c.up.length:Int) - n):=λ_=>q00 (by omega)
  with_reducible repeat' (first|refine br ?_ ?_<;>intro h e<;>(try simp only[e,go_sem,w1])<;>clear e|rw[q00 (by omega)]|refine sd ?_<;>try simp only[go_sem,w1]|(first|refine cr (qjb ..) ?_)<;>try simp only[go_sem,w1]|fail)
  ·rw[hno (.inr (by assumption))];simp[Pk.zero,E.zero]
  ·have w2:=w2 (by omega)
   rw[hyes hw (by omega),q3a (by omega) (by omega)]
   simp
def ic81:IC:=sR [oP 4 (.box 54 (.t 1))] (sR [mV 6 2,mV 7 6,gT 8 7 (.mv (.t 0)),gT 9 7 (.nilc (.t 8)),gT 10 7 (.fad 3 (.t 9)),gT 11 7 (.ld 1 false (.t 10)),gT 12 7 (.len (.t 11)),gT 13 7 (.bin .lss (.t 12) (cI 10)),pF 14 7 13] (cD 14 (.drw [0,0,2,6,14,0,32,126,255,511,1023] [(0,mV 15 0),(1,mV 16 0),(2,oP 17 (.nilc (.t 16))),(3,fD 18 3 17),(4,lD 19 1 18),(5,lA 20 7 4),(6,oP 21 (.bsl 54 7 [.t 20])),(7,oP 22 (.app 54 7 (.t 19) (.t 21))),(8,oP 23 (.nilc (.t 15))),(9,fD 24 3 23),(10,nP (.sto 1 (.t 24) (.t 22)))]) .skip))
theorem dg81:Dg Tryz.prog 81 Tryz.f81 ic81 []:=⟨Tryz.func81,by kernel_rfl,by kernel_rfl⟩
theorem c81 (w:M.World) (p:Pk) (ok:Bool) (hn:w.nets.length≤2000000):FnP Tryz.prog G 81 1 [.var 38 [.own 2 w.convs.length,.sl 3 (w.door.map.map Pair.row),.own 1 w.door.flows.length,.own 3 w.nets.length],.arr 130 8 (w.door.flows.map Flw.row),.arr 91 10 (w.convs.map Conv.row),.arr 54 7 (w.nets.map Pk.row)] [.pv 0 0,.agg [.int .i64 p.kind,.int .i64 p.frm.a,.int .i64 p.frm.p,.int .i64 p.to.a,.int .i64 p.to.p,.int .i64 p.at_,.str p.text],.bool ok] (λr o=>r=.tup []∧∃v,v=q4y w (bif ok then some p else none)∧o=[.var 38 [.own 2 v.convs.length,.sl 3 (v.door.map.map Pair.row),.own 1 v.door.flows.length,.own 3 v.nets.length],.arr 130 8 (v.door.flows.map Flw.row),.arr 91 10 (v.convs.map Conv.row),.arr 54 7 (v.nets.map Pk.row)]):=by
 refine mP dg81 Tryz.ntmps81 ⟨_,_,rfl,_,rfl,rfl⟩ ?_
 simp only[ic81,go_sem]
 have hno:q4y w none=w:=rfl
 have hfull:¬w.nets.length<10→q4y w (some p)=w:=λh=>by simp only[q4y];rw[if_neg h]
 have fin:∀l mm (v:M.World) (o:Option Pk) (n:Nat),q4y w o=v→v.convs=w.convs→v.door=w.door→q01 mm 0=.var 38 [.own 2 w.convs.length,.sl 3 (w.door.map.map Pair.row),.own 1 w.door.flows.length,.own n v.nets.length]→q01 mm 1=.arr 130 8 (w.door.flows.map Flw.row)→q01 mm 2=.arr 91 10 (w.convs.map Conv.row)→q01 mm n=.arr 54 7 (v.nets.map Pk.row)→n≠0→n≠1→n≠2 →
  q6f [] 1 (λr o'=>r=.tup []∧∃v,v=q4y w o∧o'=[.var 38 [.own 2 v.convs.length,.sl 3 (v.door.map.map Pair.row),.own 1 v.door.flows.length,.own 3 v.nets.length],.arr 130 8 (v.door.flows.map Flw.row),.arr 91 10 (v.convs.map Conv.row),.arr 54 7 (v.nets.map Pk.row)]) .normal ⟨q0e l,q01 mm⟩:=λl mm v o n h0 h1 h2 h3 h4 h5 h6 n0 n1 n2=>by
  show q6f _ _ _ .ret _
  refine q1h (.tup []) [.var 38 [.own 2 v.convs.length,.sl 3 (v.door.map.map Pair.row),.own 1 v.door.flows.length,.own 3 v.nets.length],.arr 130 8 (v.door.flows.map Flw.row),.arr 91 10 (v.convs.map Conv.row),.arr 54 7 (v.nets.map Pk.row)] [(3,n)] (by simp only[go_sem,qe6]) ⟨rfl,v,h0.symm,rfl⟩ ?_ ?_ (by simp only[go_sem])
  ·rw[h1,h2];simp only[go_sem,h3,h4,h5,h6]
  ·simp[q11,q0f];omega
 cases ok<;>simp only[go_sem]
 ·exact fin _ _ w none 3 rfl rfl rfl (by simp only[go_sem]) (by simp only[go_sem]) (by simp only[go_sem]) (by simp only[go_sem]) (by omega) (by omega) (by omega)
 with_reducible repeat' (first|refine br ?_ ?_<;>intro h e<;>(try simp only[e,go_sem])<;>clear e|rw[q00 (by omega)]|refine sd ?_<;>try simp only[go_sem]|fail)
 ·have hx:q4y w (some p)={ w with nets:=w.nets++[p] }:=by simp only[q4y];rw[if_pos (by omega)]
  exact fin _ _ { w with nets:=w.nets++[p] } (some p) 3000022 hx rfl rfl (by simp only[go_sem];simp) (by simp only[go_sem]) (by simp only[go_sem]) (by simp only[go_sem];simp[Pk.row]) (by omega) (by omega) (by omega)
 ·exact fin _ _ w (some p) 3 (hfull (by omega)) rfl rfl (by simp only[go_sem]) (by simp only[go_sem]) (by simp only[go_sem]) (by simp only[go_sem]) (by omega) (by omega) (by omega)
def qst:IC:=sR [oP 5 (.box 54 (.t 2)),oP 6 (.alloc 54 [i0,i0,i0,i0,i0,i0,s0]),oP 7 (.mv cF)] (.seq (.drw [0,1,3,0,8,24,0,64,192,448,960,7,2111,8191] [(0,mV 12 0),(1,oP 13 (.nilc (.t 12))),(2,fD 14 8 13),(3,mV 15 0),(4,oP 16 (.nilc (.t 15))),(5,fD 17 7 16),(6,mV 18 0),(7,oP 19 (.nilc (.t 18))),(8,fD 20 5 19),(9,lD 21 1 20),(10,oP 22 (.lens (.t 21))),(11,mV 8 14),(12,mV 9 17),(13,mV 10 22)]) (.seq (.drw [0,1,3,7,15,31,15,79,207,463,1023,2047,4095] [(0,fD 23 1 5),(1,lA 24 2 23),(2,oP 25 (.call 114 [.t 24])),(3,mV 26 25),(4,gT 27 26 (.fad 3 (.t 5))),(5,gT 28 26 (.ld 2 true (.t 27))),(6,gT 29 26 (.mv (.t 0))),(7,gT 30 26 (.nilc (.t 29))),(8,gT 31 26 (.fad 2 (.t 30))),(9,gT 32 26 (.ld 2 true (.t 31))),(10,gT 33 26 (.eqs false [.i,.i] (.t 28) (.t 32))),(11,pF 34 26 33),(12,mV 11 34)]) (.seq (sR [mV 35 1] (cD 35 (.seq (.drw [0,1,3,0,8,24,0,64,192,448,960,7,2111,8191] [(0,mV 36 0),(1,oP 37 (.nilc (.t 36))),(2,fD 38 9 37),(3,mV 39 0),(4,oP 40 (.nilc (.t 39))),(5,fD 41 6 40),(6,mV 42 0),(7,oP 43 (.nilc (.t 42))),(8,fD 44 4 43),(9,lD 45 1 44),(10,oP 46 (.lens (.t 45))),(11,mV 8 38),(12,mV 9 41),(13,mV 10 46)]) (.drw [0,1,0,4,12,28,63,127,255,511,255,1279,3327,7423,16383,32767,65535] [(0,fD 47 1 5),(1,lA 48 2 47),(2,mV 49 0),(3,oP 50 (.nilc (.t 49))),(4,fD 51 2 50),(5,lA 52 2 51),(6,oP 53 (.eqs false [.i,.i] (.t 48) (.t 52))),(7,mV 54 53),(8,gT 55 54 (.fad 3 (.t 5))),(9,gT 56 54 (.ld 2 true (.t 55))),(10,gT 57 54 (.mv (.t 0))),(11,gT 58 54 (.nilc (.t 57))),(12,gT 59 54 (.fad 0 (.t 58))),(13,gT 60 54 (.ld 2 true (.t 59))),(14,gT 61 54 (.eqs false [.i,.i] (.t 56) (.t 60))),(15,pF 62 54 61),(16,mV 11 62)])) .skip)) (.seq (.block 0 (sR [mV 64 11,oP 65 (.un .not (.t 64)),mV 63 65] (cD 63 (sR [oP 66 (.build [i0,i0,i0,i0,i0,i0,s0] []),nP (.sto 7 (.t 6) (.t 66)),oP 7 (.mv cF)] .ret) (sR [fD 68 0 5,lD 69 1 68,oP 70 (.bin .eql (.t 69) (cI 2)),mV 67 70] (cD 67 (.seq (.drw [0,0,2,6,0,16,0,112,254,511,1023] [(0,mV 71 9),(1,mV 72 9),(2,oP 73 (.nilc (.t 72))),(3,lD 74 1 73),(4,fD 75 5 5),(5,lD 76 1 75),(6,mV 77 10),(7,oP 78 (.mn (.t 76) (.t 77))),(8,oP 79 (.mx (.t 74) (.t 78))),(9,oP 80 (.nilc (.t 71))),(10,nP (.sto 1 (.t 80) (.t 79)))]) (sR [oP 81 (.build [i0,i0,i0,i0,i0,i0,s0] []),nP (.sto 7 (.t 6) (.t 81)),oP 7 (.mv cF)] .ret)) .skip))))) (.seq (.drw [0,0,2,6,0,16,0,64,254,510,1022,1022,2047,6143] [(0,mV 83 8),(1,mV 84 8),(2,oP 85 (.nilc (.t 84))),(3,lD 86 1 85),(4,fD 87 5 5),(5,lD 88 1 87),(6,fD 89 6 5),(7,lD 90 1 89),(8,oP 91 (.call 149 [.t 86,.t 88,.t 90])),(9,mV 82 91),(10,eX 92 82 0),(11,eX 93 82 1),(12,oP 94 (.nilc (.t 83))),(13,nP (.sto 1 (.t 94) (.t 92)))]) (.seq (.drw [0,1,0,4,0,16,48,112,255,511,1023] [(0,fD 95 3 5),(1,lA 96 2 95),(2,fD 97 1 5),(3,lA 98 2 97),(4,mV 99 8),(5,oP 100 (.nilc (.t 99))),(6,lD 101 1 100),(7,oP 102 (.lens (.t 101))),(8,oP 103 (.build [i0,i0,i0,i0,i0,i0,s0] [(0,(1,cI 2)),(1,(2,.t 96)),(3,(2,.t 98)),(5,(1,.t 102))])),(9,nP (.sto 7 (.t 6) (.t 103))),(10,oP 7 (.mv cT))]) .ret))))))
theorem dg123:Dg Tryz.prog 123 Tryz.f123 qst [(.cell 6 7 true),(.t 7)]:=⟨Tryz.func123,by kernel_rfl,by kernel_rfl⟩
theorem c123 (cs:List Conv) (k:Nat) (b:Bool) (p:Pk) (hk:k<cs.length) (hc:CvB (cs.getD k default)) (hp:PkP p):FnP Tryz.prog G 123 1 [.arr 91 10 (cs.map Conv.row)] [.pa 0 k 0,.bool b,.agg [.int .i64 p.kind,.int .i64 p.frm.a,.int .i64 p.frm.p,.int .i64 p.to.a,.int .i64 p.to.p,.int .i64 p.at_,.str p.text]]
 (λr o=>∃x,x=q4x (cs.getD k default) b p∧r=.tup [.agg (Pk.row (x.2.getD .zero)),.bool x.2.isSome]∧o=[.arr 91 10 ((cs.set k x.1).map Conv.row)]):=by
 refine mP dg123 Tryz.ntmps123 ⟨_,_,_,rfl,rfl,rfl⟩ ?_
 have h1:=hp.at_
 have h2:=hp.len
 have h3:=hc.upGot
 have h4:=hc.downGot
 generalize hcc:cs.getD k default=c at *
 have g1:=c149 c.upGot p.at_ p.text (by omega) (by omega) (by omega)
 have g2:=c149 c.downGot p.at_ p.text (by omega) (by omega) (by omega)
 have hcc2:c=cs[k]:=by rw[←hcc];simp[List.getD,hk]
 have hset:∀x:Conv,(cs.set k x).map Conv.row=(cs.map Conv.row).set k (Conv.row x):=λx=>List.map_set
 have hsame:cs.set k c=cs:=by rw[hcc2];exact List.set_getElem_self hk
 clear hcc2
 have fin:∀l mm (x:Conv×Option Pk),q4x c b p=x→q0e l 6=.pv 3000006 0→q0e l 7=.bool x.2.isSome→q01 mm 3000006=.var 54 (Pk.row (x.2.getD .zero))→q01 mm 0=.arr 91 10 ((cs.set k x.1).map Conv.row) →
  q6f [.cell 6 7 true,.t 7] 1 (λr o=>∃x,x=q4x c b p∧r=.tup [.agg (Pk.row (x.2.getD .zero)),.bool x.2.isSome]∧o=[.arr 91 10 ((cs.set k x.1).map Conv.row)]) .ret ⟨q0e l,q01 mm⟩:=λl mm x h1 h2 h3 h4 h5=>by
  refine q1h (.tup [.agg (Pk.row (x.2.getD .zero)),.bool x.2.isSome]) [.arr 91 10 ((cs.set k x.1).map Conv.row)] [] ?_ ⟨x,h1.symm,rfl,rfl⟩ ?_ (by simp[q11,q0f]) (by simp only[go_sem])
  ·simp only[go_sem,h2,h3,h4]
  ·simp only[go_sem,h5]
 have gs:∀R,((cs.map Conv.row).set k R).getD k []=R:=λR=>by simp[List.getD,hk]
 simp only[qst,go_sem]
 cases b<;>simp only[go_sem,q03 hk,hcc,E.ext_iff']
 all_goals
  with_reducible repeat' (first|refine br ?_ ?_<;>intro h e<;>(try simp only[e,go_sem,q03 hk,hcc,gs,E.ext_iff'])<;>clear e|rw[q00 (by omega)]|refine sd ?_<;>try simp only[go_sem,q03 hk,hcc,gs,E.ext_iff']|(first|refine cr (qjb ..) ?_|refine cr (g1 ..) ?_|refine cr (g2 ..) ?_)<;>try simp only[go_sem,q03 hk,hcc,gs,E.ext_iff']|fail)
 all_goals clear g1 g2
 all_goals clear gs hset hcc
 all_goals have hset:∀x:Conv,(cs.set k x).map Conv.row=(cs.map Conv.row).set k (Conv.row x):=λx=>List.map_set
 all_goals first
  | (refine fin _ _ (c,none) (by simp[q4x, *]) ?_ ?_ ?_ ?_<;>simp only[go_sem,Option.isSome_none,Option.getD_none,Pk.zero,E.zero,hsame];done)
  | (refine fin _ _ ({ c with downAck:=max c.downAck (min p.at_ c.down.length) },none) (by simp[q4x, *]) ?_ ?_ ?_ ?_<;>simp only[go_sem,Option.isSome_none,Option.getD_none,Pk.zero,E.zero,hset];done)
  | (refine fin _ _ ({ c with upAck:=max c.upAck (min p.at_ c.up.length) },none) (by simp[q4x, *]) ?_ ?_ ?_ ?_<;>simp only[go_sem,Option.isSome_none,Option.getD_none,Pk.zero,E.zero,hset];done)
  | (refine fin _ _ ({ c with upGot:=(q0a c.upGot p.at_ p.text).1 },some ⟨2,p.to,p.frm,(q0a c.upGot p.at_ p.text).1.length,[]⟩) (by simp[q4x, *]) ?_ ?_ ?_ ?_<;>simp only[go_sem,Option.isSome_some,Option.getD_some,hset];done)
  | (refine fin _ _ ({ c with downGot:=(q0a c.downGot p.at_ p.text).1 },some ⟨2,p.to,p.frm,(q0a c.downGot p.at_ p.text).1.length,[]⟩) (by simp[q4x, *]) ?_ ?_ ?_ ?_<;>simp only[go_sem,Option.isSome_some,Option.getD_some,hset];done)
def ic67:IC:=sR [oP 4 (.mv (.c i0))] (.seq (.drw [0,1,3,7,15,0,32,96,224,0,992,2016,4064,8191,16383] [(0,mV 5 0),(1,oP 6 (.nilc (.t 5))),(2,fD 7 1 6),(3,fD 8 0 7),(4,lD 9 1 8),(5,mV 10 0),(6,oP 11 (.nilc (.t 10))),(7,fD 12 0 11),(8,lD 13 1 12),(9,mV 14 1),(10,oP 15 (.iad 10 (.t 13) (.t 14))),(11,fD 16 0 15),(12,lA 17 2 16),(13,oP 18 (.call 105 [.t 9,.t 17])),(14,mV 4 18)]) .ret)
theorem dg67:Dg Tryz.prog 67 Tryz.f67 ic67 [(.t 4)]:=⟨Tryz.func67,by kernel_rfl,by kernel_rfl⟩
theorem c67 (w:M.World) (k:Nat) (hk:k<w.convs.length) (hm:w.door.map.length≤2000000):FnP Tryz.prog G 67 4 [.var 38 [.own 2 w.convs.length,.sl 3 (w.door.map.map Pair.row),.own 1 w.door.flows.length,.own 3 w.nets.length],.arr 130 8 (w.door.flows.map Flw.row),.arr 91 10 (w.convs.map Conv.row),.arr 54 7 (w.nets.map Pk.row)] [.pv 0 0,.int .i64 (k:Int)] (λr o=>r=.int .i64 (portOf w.door.map (w.convs.getD k default).ins)∧o=[.var 38 [.own 2 w.convs.length,.sl 3 (w.door.map.map Pair.row),.own 1 w.door.flows.length,.own 3 w.nets.length],.arr 130 8 (w.door.flows.map Flw.row),.arr 91 10 (w.convs.map Conv.row),.arr 54 7 (w.nets.map Pk.row)]):=by
 refine mP dg67 Tryz.ntmps67 ⟨_,_,rfl,rfl⟩ ?_
 generalize hc:w.convs.getD k default=c at *
 have f1:=qs0 w.door.map c.ins.a c.ins.p hm
 simp only[ic67,go_sem]
 with_reducible repeat' (first|refine br ?_ ?_<;>intro h e<;>(try simp only[e,go_sem,q03 hk,hc])<;>clear e|rw[q00 (by omega)]|refine sd ?_<;>try simp only[go_sem,q03 hk,hc]|(first|refine cr (f1 ..) ?_)<;>try simp only[go_sem,q03 hk,hc]|fail)
 refine q1h _ _ [] ?_ ⟨rfl,rfl⟩ ?_ (by simp[q11,q0f]) (by simp only[go_sem])
 ·simp only[go_sem]
 ·simp only[go_sem]
def qn6 (x:M.World×Option Pk) (r:V) (o:List Hs):Prop:=∃q,r=.tup [.agg (Pk.row q),.bool x.2.isSome]∧(∀q',x.2=some q'→q=q')∧o=[.var 38 [.own 2 x.1.convs.length,.sl 3 (x.1.door.map.map Pair.row),.own 1 x.1.door.flows.length,.own 3 x.1.nets.length],.arr 130 8 (x.1.door.flows.map Flw.row),.arr 91 10 (x.1.convs.map Conv.row),.arr 54 7 (x.1.nets.map Pk.row)]
theorem q6s {x:M.World×Option Pk} {w:M.World} {o:Option Pk} {l:List (Nat×V)} {mm:List (Nat×Hs)} (q:Pk) (n1 n2 n3:Nat) (hx:x=(w,o)) (hq:∀q',o=some q'→q=q') (h4:q0e l 4=.pv 3000004 0) (h5:q0e l 5=.bool o.isSome) (m4:q01 mm 3000004=.var 54 (Pk.row q))
 (m0:q01 mm 0=.var 38 [.own n2 w.convs.length,.sl 3 (w.door.map.map Pair.row),.own n1 w.door.flows.length,.own n3 w.nets.length])
 (m1:q01 mm n1=.arr 130 8 (w.door.flows.map Flw.row)) (m2:q01 mm n2=.arr 91 10 (w.convs.map Conv.row)) (m3:q01 mm n3=.arr 54 7 (w.nets.map Pk.row))
 (hne:[0,n1,n2,n3].Nodup):q6f [.cell 4 7 true,.t 5] 1 (qn6 x) .ret ⟨q0e l,q01 mm⟩:=by
 subst hx
 refine q1h (.tup [.agg (Pk.row q),.bool o.isSome]) [.var 38 [.own 2 w.convs.length,.sl 3 (w.door.map.map Pair.row),.own 1 w.door.flows.length,.own 3 w.nets.length],.arr 130 8 (w.door.flows.map Flw.row),.arr 91 10 (w.convs.map Conv.row),.arr 54 7 (w.nets.map Pk.row)] [(1,n1),(2,n2),(3,n3)] ?_ ⟨q,rfl,hq,rfl⟩ ?_ (by simpa[q11,q0f] using hne) (by simp only[go_sem])
 ·simp only[go_sem,h4,h5,m4]
 ·simp only[go_sem,m0,m1,m2,m3]
def ic82:IC:=sR [oP 3 (.box 54 (.t 1)),oP 4 (.alloc 54 [i0,i0,i0,i0,i0,i0,s0]),oP 5 (.mv cF)] (.seq (sR [fD 9 3 3,lA 10 2 9,oP 11 (.call 114 [.t 10]),mV 12 11,gF 13 12 (.fad 1 (.t 3)),gF 14 12 (.ld 2 true (.t 13)),gF 15 12 (.call 121 [.t 14]),pT 16 12 15] (cD 16 (.seq (.drw [0,1,3,0,15,31,31,127,255] [(0,mV 17 0),(1,oP 18 (.nilc (.t 17))),(2,fD 19 1 18),(3,lA 20 7 3),(4,oP 21 (.call 122 [.t 19,.t 20])),(5,eX 22 21 0),(6,eX 23 21 1),(7,nP (.sto 7 (.t 4) (.t 22))),(8,mV 5 23)]) .ret) .skip)) (.seq (sR [mV 24 0,oP 25 (.nilc (.t 24)),fD 26 0 25,lD 27 1 26,oP 28 (.len (.t 27)),oP 29 (.mv (.c i0))] (.block 0 (.loop (sR [bN 30 .lss 29 28] (.seq (cD 30 .skip (.exit 0)) (.seq (.block 1 (sR [mV 31 29,mV 6 31] (sR [mV 32 0,oP 33 (.nilc (.t 32)),fD 34 0 33,lD 35 1 34,mV 36 6,oP 37 (.iad 10 (.t 35) (.t 36)),mV 7 37] (.seq (.drw [0,1,0,4,12,28,63,127,255,511,255,1279,3327,7423,16383,32767,65535] [(0,fD 38 3 3),(1,lA 39 2 38),(2,mV 40 7),(3,oP 41 (.nilc (.t 40))),(4,fD 42 0 41),(5,lA 43 2 42),(6,oP 44 (.eqs false [.i,.i] (.t 39) (.t 43))),(7,mV 45 44),(8,gT 46 45 (.fad 1 (.t 3))),(9,gT 47 45 (.ld 2 true (.t 46))),(10,gT 48 45 (.mv (.t 7))),(11,gT 49 45 (.nilc (.t 48))),(12,gT 50 45 (.fad 2 (.t 49))),(13,gT 51 45 (.ld 2 true (.t 50))),(14,gT 52 45 (.eqs false [.i,.i] (.t 47) (.t 51))),(15,pF 53 45 52),(16,mV 8 53)]) (.seq (.drw [0,1,3,7,3,19,51,115,255,511,1023,2047,4095,8191,16383,32767,65535,131071,32767,32767,819199,2097151,4194303,8388607] [(0,mV 54 8),(1,mV 55 54),(2,gF 56 55 (.fad 3 (.t 3))),(3,gF 57 55 (.ld 2 true (.t 56))),(4,gF 58 55 (.mv (.t 7))),(5,gF 59 55 (.nilc (.t 58))),(6,gF 60 55 (.fad 2 (.t 59))),(7,gF 61 55 (.ld 2 true (.t 60))),(8,gF 62 55 (.eqs false [.i,.i] (.t 57) (.t 61))),(9,gF 63 55 (.mv (.t 62))),(10,gT 64 63 (.fad 1 (.t 3))),(11,gT 65 63 (.ld 2 true (.t 64))),(12,gT 66 63 (.call 114 [.t 65])),(13,gF 67 55 (.pick (.t 63) (.t 66) cF)),(14,gF 68 55 (.mv (.t 67))),(15,gT 69 68 (.fad 1 (.t 3))),(16,gT 70 68 (.fad 1 (.t 69))),(17,gT 71 68 (.ld 1 false (.t 70))),(18,gT 72 68 (.mv (.t 0))),(19,gT 73 68 (.mv (.t 6))),(20,gT 74 68 (.call 67 [.t 72,.t 73])),(21,gT 75 68 (.bin .eql (.t 71) (.t 74))),(22,gF 76 55 (.pick (.t 68) (.t 75) cF)),(23,pT 77 55 76)]) (cD 77 (sR [mV 78 7,mV 79 8,lA 80 7 3,oP 81 (.call 123 [.t 78,.t 79,.t 80]),eX 82 81 0,eX 83 81 1,nP (.sto 7 (.t 4) (.t 82)),mV 5 83] .ret) .skip)))))) (.reg [oP 84 (.bin .add (.t 29) (cI 1)),mV 29 84]))))))) (sR [oP 85 (.build [i0,i0,i0,i0,i0,i0,s0] []),nP (.sto 7 (.t 4) (.t 85)),oP 5 (.mv cF)] .ret)))
theorem dg82:Dg Tryz.prog 82 Tryz.f82 ic82 [(.cell 4 7 true),(.t 5)]:=⟨Tryz.func82,by kernel_rfl,by kernel_rfl⟩
set_option maxHeartbeats 1000000 in
theorem x82 {X:List (E×E)} (w:M.World) (p:Pk) (hw:WX X w) (hp:PkP p):FnP Tryz.prog G 82 1 [.var 38 [.own 2 w.convs.length,.sl 3 (w.door.map.map Pair.row),.own 1 w.door.flows.length,.own 3 w.nets.length],.arr 130 8 (w.door.flows.map Flw.row),.arr 91 10 (w.convs.map Conv.row),.arr 54 7 (w.nets.map Pk.row)] [.pv 0 0,.agg [.int .i64 p.kind,.int .i64 p.frm.a,.int .i64 p.frm.p,.int .i64 p.to.a,.int .i64 p.to.p,.int .i64 p.at_,.str p.text]] (qn6 (q2g w p)):=by
 refine mP dg82 Tryz.ntmps82 ⟨_,_,(q2g w p).2.getD .zero,rfl,λq' h=>by rw[h];rfl,rfl⟩ ?_
 have hml:=(q0b (q0c.1 hw.door).1).2
 have hcl:=hw.cl
 have hdoor:(p.to.door=true∨p.frm.inside=true)→q2g w p=({ w with door:=(q1o w.door p).1 },(q1o w.door p).2):=λh=>q9w (by simpa using h)
 simp only[ic82,go_sem]
 with_reducible repeat' (first|refine br ?_ ?_<;>intro h e<;>(try simp only[e,go_sem])<;>clear e|rw[q00 (by omega)]|refine sd ?_<;>try simp only[go_sem]|(first|refine cr (qjb ..) ?_|refine cr (qs4 ..) ?_)<;>try simp only[go_sem]|fail)
 ·refine q1k (w122 w w.door p hw.door hp) [0,1,2,3] [] true 21 4 (by simp only[go_sem];first|done|simp) (by simp only[go_sem];first|done|simp) (by simp) (by simp) (by simp) ?_ ?_ ?_
  ·rintro res out ⟨q,rfl,hq,rfl⟩
   exact⟨by simp,by simp,.inl rfl,λi hi=>by obtain rfl:i=0:=(by omega);simp[chH,q0h]⟩
  ·intro i hi
   rcases(show i=0∨i=1∨i=2∨i=3 by omega) with rfl|rfl|rfl|rfl<;>simp only[go_sem]
  rintro res out ⟨q,rfl,hq,rfl⟩
  simp only[go_sem]
  with_reducible repeat' (first|refine br ?_ ?_<;>intro h e<;>(try simp only[e,go_sem])<;>clear e|rw[q00 (by omega)]|refine sd ?_<;>try simp only[go_sem]|fail)
  refine q6s (w:={ w with door:=(q1o w.door p).1 }) (o:=(q1o w.door p).2) q 102101 102102 102103 (hdoor (.inl (by assumption))) hq ?_ ?_ ?_ ?_ ?_ ?_ ?_ (by decide)<;>simp only[go_sem]
 ·refine q1k (w122 w w.door p hw.door hp) [0,1,2,3] [] true 21 4 (by simp only[go_sem];first|done|simp) (by simp only[go_sem];first|done|simp) (by simp) (by simp) (by simp) ?_ ?_ ?_
  ·rintro res out ⟨q,rfl,hq,rfl⟩
   exact⟨by simp,by simp,.inl rfl,λi hi=>by obtain rfl:i=0:=(by omega);simp[chH,q0h]⟩
  ·intro i hi
   rcases(show i=0∨i=1∨i=2∨i=3 by omega) with rfl|rfl|rfl|rfl<;>simp only[go_sem]
  rintro res out ⟨q,rfl,hq,rfl⟩
  simp only[go_sem]
  with_reducible repeat' (first|refine br ?_ ?_<;>intro h e<;>(try simp only[e,go_sem])<;>clear e|rw[q00 (by omega)]|refine sd ?_<;>try simp only[go_sem]|fail)
  refine q6s (w:={ w with door:=(q1o w.door p).1 }) (o:=(q1o w.door p).2) q 102101 102102 102103 (hdoor (.inr (by assumption))) hq ?_ ?_ ?_ ?_ ?_ ?_ ?_ (by decide)<;>simp only[go_sem]
 rw[q9o (by simp[*])]
 clear hdoor
 refine q0d (λk:Nat=>⟨q0e [(0,.pv 0 0),(3,.pv 3000003 0),(4,.pv 3000004 0),(28,.int .i64 w.convs.length),(29,.int .i64 (k:Int))],q01 [(0,.var 38 [.own 2 w.convs.length,.sl 3 (w.door.map.map Pair.row),.own 1 w.door.flows.length,.own 3 w.nets.length]),(1,.arr 130 8 (w.door.flows.map Flw.row)),(2,.arr 91 10 (w.convs.map Conv.row)),(3,.arr 54 7 (w.nets.map Pk.row)),(3000003,.var 54 [.int .i64 p.kind,.int .i64 p.frm.a,.int .i64 p.frm.p,.int .i64 p.to.a,.int .i64 p.to.p,.int .i64 p.at_,.str p.text]),(3000004,.var 54 [.int .i64 0,.int .i64 0,.int .i64 0,.int .i64 0,.int .i64 0,.int .i64 0,.str []])]⟩)
  (λk=>w.convs.length - k) (λk=>k≤w.convs.length∧(w.convs.take k).any (q5r w p)=false) 0 (leQ []) ⟨Nat.zero_le _,by simp⟩ ?_
 intro k ⟨hk,ha⟩
 simp only[go_sem]
 by_cases h:(k:Int)<w.convs.length
 ·have hil:k<w.convs.length:=by omega
  have hg:w.convs.getD k default=w.convs[k]:=by simp[List.getD,hil]
  have hat:=qdr (w:=w) (p:=p) hil ha
  have hstep:=q5h hil ha
  have hB:=q26 (hw.cv _ (List.getElem_mem hil))
  rw[qed] at hat hstep
  have fp:=c67 w k hil (by omega)
  have ft:=c123 w.convs k true p hil (by rw[hg];exact hB) hp
  have ff:=c123 w.convs k false p hil (by rw[hg];exact hB) hp
  rw[hg] at fp ft ff
  simp only[eq_true h,go_sem]
  generalize hc:w.convs[k]=c at *
  generalize hinw:(decide (p.to=c.ins)&&decide (p.frm=c.out))=inw at *
  with_reducible repeat' (first|refine br ?_ ?_<;>intro h e<;>(try simp only[e,go_sem,q03 hil,hg,E.ext_iff'])<;>clear e|rw[q00 (by omega)]|refine sd ?_<;>try simp only[go_sem,q03 hil,hg,E.ext_iff']|(first|refine cr (qjb ..) ?_)<;>try simp only[go_sem,q03 hil,hg,E.ext_iff']|fail)
  all_goals try(
   refine q1k fp [0,1,2,3] [] true 74 4 (by simp only[go_sem];first|done|simp) (by simp only[go_sem];first|done|simp) (by simp) (by simp) (by simp) ?_ ?_ ?_
   ·rintro _ _ ⟨rfl,rfl⟩
    exact⟨by simp,by simp,.inl rfl,λi hi=>by rcases(show i=0∨i=1∨i=2∨i=3 by omega) with rfl|rfl|rfl|rfl<;>simp[chH,q0h]⟩
   ·intro i hi
    rcases(show i=0∨i=1∨i=2∨i=3 by omega) with rfl|rfl|rfl|rfl<;>simp only[go_sem]
   rintro _ _ ⟨rfl,rfl⟩
   simp only[go_sem]
   with_reducible repeat' (first|refine br ?_ ?_<;>intro h e<;>(try simp only[e,go_sem,q03 hil,hg,E.ext_iff'])<;>clear e|rw[q00 (by omega)]|refine sd ?_<;>try simp only[go_sem,q03 hil,hg,E.ext_iff']|(first|refine cr (qjb ..) ?_)<;>try simp only[go_sem,q03 hil,hg,E.ext_iff']|fail)
   )
  all_goals clear fp
  all_goals first
   | (refine⟨k+1,by omega,⟨by omega,hstep ?_⟩,(leQ [])⟩
      clear ft ff
      simp_all;done)
   | (refine q1k ft [2] [] true 81 1 (by simp only[go_sem];first|done|simp) (by simp only[go_sem];first|done|simp) (by simp) (by simp) (by simp) ?_ ?_ ?_
      ·rintro _ _ ⟨x,rfl,rfl,rfl⟩
       exact⟨by simp,by simp,.inl rfl,λi hi=>by obtain rfl:i=0:=(by omega);simp[chH,q0h]⟩
      ·intro i hi;obtain rfl:i=0:=(by omega);simp only[go_sem]
      rintro _ _ ⟨x,hx,rfl,rfl⟩
      clear ft ff
      simp only[go_sem]
      with_reducible repeat' (first|refine br ?_ ?_<;>intro h e<;>(try simp only[e,go_sem])<;>clear e|rw[q00 (by omega)]|refine sd ?_<;>try simp only[go_sem]|fail)
      have hi:inw=true:=by clear hx;simp_all
      have hh:=hat (by clear hx;simp_all)
      rw[hi,←hx] at hh
      refine q6s (w:={ w with convs:=w.convs.set k x.1 }) (o:=x.2) (x.2.getD .zero) 1 2 3 hh (λq' h=>by rw[h];rfl) ?_ ?_ ?_ ?_ ?_ ?_ ?_ (by decide)
      all_goals simp only[go_sem,List.length_set]
      done)
   | (refine q1k ff [2] [] true 81 1 (by simp only[go_sem];first|done|simp) (by simp only[go_sem];first|done|simp) (by simp) (by simp) (by simp) ?_ ?_ ?_
      ·rintro _ _ ⟨x,rfl,rfl,rfl⟩
       exact⟨by simp,by simp,.inl rfl,λi hi=>by obtain rfl:i=0:=(by omega);simp[chH,q0h]⟩
      ·intro i hi;obtain rfl:i=0:=(by omega);simp only[go_sem]
      rintro _ _ ⟨x,hx,rfl,rfl⟩
      clear ft ff
      simp only[go_sem]
      with_reducible repeat' (first|refine br ?_ ?_<;>intro h e<;>(try simp only[e,go_sem])<;>clear e|rw[q00 (by omega)]|refine sd ?_<;>try simp only[go_sem]|fail)
      have hi:inw=false:=by clear hx;simp_all
      have hh:=hat (by clear hx;simp_all)
      rw[hi,←hx] at hh
      refine q6s (w:={ w with convs:=w.convs.set k x.1 }) (o:=x.2) (x.2.getD .zero) 1 2 3 hh (λq' h=>by rw[h];rfl) ?_ ?_ ?_ ?_ ?_ ?_ ?_ (by decide)
      all_goals simp only[go_sem,List.length_set]
      done)
 ·simp only[eq_false h,go_sem]
  have:k=w.convs.length:=by omega
  subst this
  rw[List.take_length] at ha
  rw[qe9 ha]
  refine q6s .zero 1 2 3 rfl (λq' h=>by cases h) ?_ ?_ ?_ ?_ ?_ ?_ ?_ (by decide)<;>simp only[go_sem,Option.isSome_none,Pk.zero,E.zero]
def ic83:IC:=sR [oP 4 (.alloc 54 [i0,i0,i0,i0,i0,i0,s0])] (sR [mV 6 0,oP 7 (.nilc (.t 6)),fD 8 3 7,lD 9 1 8,mV 10 1,oP 11 (.iad 7 (.t 9) (.t 10)),lA 12 7 11,oP 5 (.alloc 54 [i0,i0,i0,i0,i0,i0,s0]),nP (.sto 7 (.t 5) (.t 12))] (sR [mV 13 0,mV 14 0,oP 15 (.nilc (.t 14)),fD 16 3 15,lD 17 1 16,mV 18 1,mV 19 1,oP 20 (.bin .add (.t 19) (cI 1)),oP 21 (.call 124 [.t 17,.t 18,.t 20]),oP 22 (.nilc (.t 13)),fD 23 3 22,nP (.sto 1 (.t 23) (.t 21))] (sR [lA 24 7 5,nP (.sto 7 (.t 4) (.t 24))] .ret)))
theorem dg83:Dg Tryz.prog 83 Tryz.f83 ic83 [(.cell 4 7 true)]:=⟨Tryz.func83,by kernel_rfl,by kernel_rfl⟩
theorem c83 (w:M.World) (k:Nat) (hk:k<w.nets.length) (hn:w.nets.length≤2000000):FnP Tryz.prog G 83 1 [.var 38 [.own 2 w.convs.length,.sl 3 (w.door.map.map Pair.row),.own 1 w.door.flows.length,.own 3 w.nets.length],.arr 130 8 (w.door.flows.map Flw.row),.arr 91 10 (w.convs.map Conv.row),.arr 54 7 (w.nets.map Pk.row)] [.pv 0 0,.int .i64 (k:Int)] (λr o=>r=.agg (Pk.row (w.nets.getD k default))∧∃v,v={ w with nets:=w.nets.eraseIdx k }∧o=[.var 38 [.own 2 v.convs.length,.sl 3 (v.door.map.map Pair.row),.own 1 v.door.flows.length,.own 3 v.nets.length],.arr 130 8 (v.door.flows.map Flw.row),.arr 91 10 (v.convs.map Conv.row),.arr 54 7 (v.nets.map Pk.row)]):=by
 refine mP dg83 Tryz.ntmps83 ⟨_,_,rfl,_,rfl,rfl⟩ ?_
 have hlen:(w.nets.eraseIdx k).length=w.nets.length - 1:=by rw[List.length_eraseIdx,if_pos hk]
 generalize hp:w.nets.getD k default=p at *
 simp only[ic83,go_sem]
 with_reducible repeat' (first|rw[q00 (by omega)];try simp only[go_sem,q03 hk,hp]|refine br ?_ ?_<;>intro h e<;>(try simp only[e,go_sem,q03 hk,hp])<;>clear e|refine sd ?_<;>try simp only[go_sem,q03 hk,hp]|fail)
 refine q1z (o124 w.nets k hk) [3] [] 21 1 (by simp only[go_sem];first|done|simp) (by simp only[go_sem];first|done|simp) (by simp) (by simp) (by rintro _ _ ⟨rfl,rfl⟩;simp) (by intro i hi;obtain rfl:i=0:=(by omega);simp only[go_sem]) ?_
 rintro _ _ ⟨rfl,rfl⟩
 simp only[go_sem]
 with_reducible repeat' (first|refine br ?_ ?_<;>intro h e<;>(try simp only[e,go_sem])<;>clear e|rw[q00 (by omega)]|refine sd ?_<;>try simp only[go_sem]|fail)
 refine q1h (.agg (Pk.row p)) [.var 38 [.own 2 ({ w with nets:=w.nets.eraseIdx k }:M.World).convs.length,.sl 3 (({ w with nets:=w.nets.eraseIdx k }:M.World).door.map.map Pair.row),.own 1 ({ w with nets:=w.nets.eraseIdx k }:M.World).door.flows.length,.own 3 ({ w with nets:=w.nets.eraseIdx k }:M.World).nets.length],.arr 130 8 (({ w with nets:=w.nets.eraseIdx k }:M.World).door.flows.map Flw.row),.arr 91 10 (({ w with nets:=w.nets.eraseIdx k }:M.World).convs.map Conv.row),.arr 54 7 (({ w with nets:=w.nets.eraseIdx k }:M.World).nets.map Pk.row)] [(3,102100)] ?_ ⟨rfl,_,rfl,rfl⟩ ?_ (by simp[q11,q0f]) (by simp only[go_sem])
 ·simp only[go_sem]
 ·simp only[go_sem,hlen]
def qp6 (p:Pk) (c:Conv):Bool:=decide (c.out=p.frm)
def ic85:IC:=sR [oP 2 (.box 91 (.t 0)),oP 3 (.mv cF)] (sR [fD 4 2 2,lA 5 2 4,fD 6 4 1,fD 7 1 6,lA 8 2 7,oP 9 (.eqs false [.i,.i] (.t 5) (.t 8)),mV 3 9] .ret)
theorem dg85:Dg Tryz.prog 85 Tryz.f85 ic85 [(.t 3)]:=⟨Tryz.func85,by kernel_rfl,by kernel_rfl⟩
theorem c85 (c:Conv) (e:Ev):FnR Tryz.prog G 85 [.agg [.int .i64 c.ins.a,.int .i64 c.ins.p,.int .i64 c.out.a,.int .i64 c.out.p,.str c.up,.str c.down,.int .i64 c.upAck,.int .i64 c.downAck,.str c.upGot,.str c.downGot],.iptr [.int .i64 e.kind,.int .i64 e.a,.int .i64 e.b,.int .i64 e.c,.int .i64 e.pkt.kind,.int .i64 e.pkt.frm.a,.int .i64 e.pkt.frm.p,.int .i64 e.pkt.to.a,.int .i64 e.pkt.to.p,.int .i64 e.pkt.at_,.str e.pkt.text] 0] (.bool (qp6 e.pkt c)):=by
 refine mF dg85 Tryz.ntmps85 ?_
 simp only[ic85,go_sem,E.ext_iff']
 all_goals simp_all[qp6]
theorem c125D (l:List Conv) (e:Ev) (hl:l.length≤2000000):FnR Tryz.prog G 125 [.sl 10 (l.map Conv.row),.fn 85 [.iptr [.int .i64 e.kind,.int .i64 e.a,.int .i64 e.b,.int .i64 e.c,.int .i64 e.pkt.kind,.int .i64 e.pkt.frm.a,.int .i64 e.pkt.frm.p,.int .i64 e.pkt.to.a,.int .i64 e.pkt.to.p,.int .i64 e.pkt.at_,.str e.pkt.text] 0]] (.int .i64 (ixI (l.findIdx? (qp6 e.pkt)))):=by
 refine mF qz2 Tryz.ntmps125 ?_
 simp only[qod,go_sem]
 refine q0d (λk:Nat=>⟨q0e [(0,.sl 10 (l.map Conv.row)),(1,.fn 85 [.iptr [.int .i64 e.kind,.int .i64 e.a,.int .i64 e.b,.int .i64 e.c,.int .i64 e.pkt.kind,.int .i64 e.pkt.frm.a,.int .i64 e.pkt.frm.p,.int .i64 e.pkt.to.a,.int .i64 e.pkt.to.p,.int .i64 e.pkt.at_,.str e.pkt.text] 0]),(7,.int .i64 l.length),(8,.int .i64 (k:Int))],q01 []⟩) (λk=>l.length - k)
  (λk=>k≤l.length∧(l.take k).any (qp6 e.pkt)=false) 0 (leQ []) ⟨Nat.zero_le _,by simp⟩ ?_
 intro k ⟨hk,ha⟩
 simp only[go_sem]
 by_cases h:(k:Int)<l.length
 ·have hil:k<l.length:=by omega
  have hg:l.getD k default=l[k]:=by simp[List.getD,hil]
  have hy:=q4j hil ha
  have hs:=q5h hil ha
  simp only[eq_true h,go_sem]
  refine effG (by omega) ?_
  simp only[hg,go_sem]
  refine q0m (c85 l[k] e) rfl rfl ?_
  simp only[go_sem]
  with_reducible repeat' (first|refine br ?_ ?_<;>intro h e<;>(try simp only[e,go_sem])<;>clear e|rw[q00 (by omega)]|refine sd ?_<;>try simp only[go_sem]|fail)
  ·rw[hy (by assumption)];rfl
  ·exact⟨k+1,by omega,⟨by omega,hs (by assumption)⟩,(leQ [])⟩
 ·simp only[eq_false h,go_sem]
  have:k=l.length:=by omega
  subst this
  rw[List.take_length] at ha
  rw[q47 ha];rfl
theorem c84D (l:List Conv) (e:Ev) (hl:l.length≤2000000):FnR Tryz.prog G 84 [.sl 10 (l.map Conv.row),.fn 85 [.iptr [.int .i64 e.kind,.int .i64 e.a,.int .i64 e.b,.int .i64 e.c,.int .i64 e.pkt.kind,.int .i64 e.pkt.frm.a,.int .i64 e.pkt.frm.p,.int .i64 e.pkt.to.a,.int .i64 e.pkt.to.p,.int .i64 e.pkt.at_,.str e.pkt.text] 0]] (.bool (l.any (qp6 e.pkt))):=by
 refine mF dg84 Tryz.ntmps84 ?_
 simp only[ic84,go_sem]
 refine q0m (c125D l e hl) rfl rfl ?_
 simp only[go_sem,qbe]
theorem qfp (w:M.World) (p:Pk):q28 w p=(qbm p&&p.inward&&!w.convs.any (qp6 p)):=rfl
def qf9:IC:=sR [oP 3 (.box 56 (.t 1))] (.seq (.drw [0,1,0,4,12,28,60,124,255,0,512,0,2048,6144,14336,30720,63488,131071,262143,524287] [(0,fD 7 1 3),(1,lD 8 1 7),(2,mV 9 0),(3,oP 10 (.nilc (.t 9))),(4,fD 11 0 10),(5,lD 12 1 11),(6,oP 13 (.len (.t 12))),(7,oP 14 (.bin .sub (.t 13) (cI 1))),(8,oP 15 (.call 27 [.t 8,.c i0,.t 14])),(9,fD 16 1 3),(10,lD 17 1 16),(11,mV 18 0),(12,oP 19 (.nilc (.t 18))),(13,fD 20 3 19),(14,lD 21 1 20),(15,oP 22 (.len (.t 21))),(16,oP 23 (.bin .sub (.t 22) (cI 1))),(17,oP 24 (.call 27 [.t 17,.c i0,.t 23])),(18,mV 4 15),(19,mV 5 24)]) (.block 0 (sR [fD 26 0 3,lD 27 1 26,oP 28 (.bin .eql (.t 27) (cI 1)),mV 29 28,gT 30 29 (.mv (.t 4)),pF 31 29 30,mV 25 31] (cD 25 (.drw [0,0,2,6,14,0,32,126,254,0,512,0,2048,8190,16382,16382,65535] [(0,mV 32 0),(1,mV 33 0),(2,oP 34 (.nilc (.t 33))),(3,fD 35 0 34),(4,lD 36 1 35),(5,fD 37 1 3),(6,lD 38 1 37),(7,oP 39 (.iad 10 (.t 36) (.t 38))),(8,lA 40 10 39),(9,fD 41 2 3),(10,lD 42 1 41),(11,fD 43 3 3),(12,lD 44 1 43),(13,oP 45 (.call 66 [.t 40,cT,.c i0,.t 42,.t 44])),(14,eX 46 45 0),(15,eX 47 45 1),(16,oP 48 (.call 81 [.t 32,.t 46,.t 47]))]) (sR [fD 50 0 3,lD 51 1 50,oP 52 (.bin .eql (.t 51) (cI 2)),mV 53 52,gT 54 53 (.mv (.t 4)),pF 55 53 54,mV 49 55] (cD 49 (.drw [0,0,2,6,14,0,32,126,254,0,0,1024,3584,0,8192,0,32768,131070,262142,262142,1048575] [(0,mV 56 0),(1,mV 57 0),(2,oP 58 (.nilc (.t 57))),(3,fD 59 0 58),(4,lD 60 1 59),(5,fD 61 1 3),(6,lD 62 1 61),(7,oP 63 (.iad 10 (.t 60) (.t 62))),(8,lA 64 10 63),(9,mV 65 0),(10,fD 66 1 3),(11,lD 67 1 66),(12,oP 68 (.call 67 [.t 65,.t 67])),(13,fD 69 2 3),(14,lD 70 1 69),(15,fD 71 3 3),(16,lD 72 1 71),(17,oP 73 (.call 66 [.t 64,cF,.t 68,.t 70,.t 72])),(18,eX 74 73 0),(19,eX 75 73 1),(20,oP 76 (.call 81 [.t 56,.t 74,.t 75]))]) (sR [fD 78 0 3,lD 79 1 78,oP 80 (.bin .eql (.t 79) (cI 3)),mV 81 80,gT 82 81 (.mv (.t 5)),pF 83 81 82,mV 77 83] (cD 77 (.reg [mV 84 0,mV 85 0,mV 86 0,fD 87 1 3,lD 88 1 87,oP 89 (.call 83 [.t 86,.t 88]),oP 90 (.call 82 [.t 85,.t 89]),eX 91 90 0,eX 92 90 1,oP 93 (.call 81 [.t 84,.t 91,.t 92])]) (sR [fD 95 0 3,lD 96 1 95,oP 97 (.bin .eql (.t 96) (cI 4)),mV 98 97,gT 99 98 (.mv (.t 5)),pF 100 98 99,mV 94 100] (cD 94 (.reg [mV 101 0,fD 102 1 3,lD 103 1 102,oP 104 (.call 83 [.t 101,.t 103])]) (sR [fD 106 0 3,lD 107 1 106,oP 108 (.bin .eql (.t 107) (cI 5)),mV 109 108,gT 110 109 (.mv (.t 5)),pF 111 109 110,mV 105 111] (cD 105 (.drw [0,0,2,6,14,0,32,126,254,511] [(0,mV 112 0),(1,mV 113 0),(2,oP 114 (.nilc (.t 113))),(3,fD 115 3 114),(4,lD 116 1 115),(5,fD 117 1 3),(6,lD 118 1 117),(7,oP 119 (.iad 7 (.t 116) (.t 118))),(8,lA 120 7 119),(9,oP 121 (.call 81 [.t 112,.t 120,cT]))]) (sR [fD 123 0 3,lD 124 1 123,oP 125 (.bin .eql (.t 124) (cI 6)),mV 122 125] (cD 122 (sR [mV 126 0,oP 127 (.nilc (.t 126)),fD 128 0 127,lD 129 1 128,oP 130 (.mkf 85 [.t 3]),oP 131 (.call 84 [.t 129,.t 130]),oP 132 (.un .not (.t 131)),mV 6 132] (.drw [0,0,2,0,8,24,56,120,248,504,1016,2040,4088,8184,16383] [(0,mV 133 0),(1,fD 134 4 3),(2,lA 135 7 134),(3,fD 136 4 3),(4,lA 137 7 136),(5,oP 138 (.call 59 [.t 137])),(6,mV 139 138),(7,gT 140 139 (.fad 4 (.t 3))),(8,gT 141 139 (.ld 7 true (.t 140))),(9,gT 142 139 (.call 86 [.t 141])),(10,pF 143 139 142),(11,mV 144 143),(12,gT 145 144 (.mv (.t 6))),(13,pF 146 144 145),(14,oP 147 (.call 81 [.t 133,.t 135,.t 146]))])) .skip))))))))))))))
theorem dg42:Dg Tryz.prog 42 Tryz.f42 qf9 []:=⟨Tryz.func42,by kernel_rfl,by kernel_rfl⟩
set_option maxHeartbeats 1000000 in
theorem x42 {X:List (E×E)} (w:M.World) (e:Ev) (hw:WX X w) (ht:e.pkt.text.length≤2000000):FnP Tryz.prog G 42 1 [.var 38 [.own 2 w.convs.length,.sl 3 (w.door.map.map Pair.row),.own 1 w.door.flows.length,.own 3 w.nets.length],.arr 130 8 (w.door.flows.map Flw.row),.arr 91 10 (w.convs.map Conv.row),.arr 54 7 (w.nets.map Pk.row)] [.pv 0 0,.agg [.int .i64 e.kind,.int .i64 e.a,.int .i64 e.b,.int .i64 e.c,.int .i64 e.pkt.kind,.int .i64 e.pkt.frm.a,.int .i64 e.pkt.frm.p,.int .i64 e.pkt.to.a,.int .i64 e.pkt.to.p,.int .i64 e.pkt.at_,.str e.pkt.text]] (λr o=>r=.tup []∧∃v,v=wDo w e∧o=[.var 38 [.own 2 v.convs.length,.sl 3 (v.door.map.map Pair.row),.own 1 v.door.flows.length,.own 3 v.nets.length],.arr 130 8 (v.door.flows.map Flw.row),.arr 91 10 (v.convs.map Conv.row),.arr 54 7 (v.nets.map Pk.row)]):=by
 refine mP dg42 Tryz.ntmps42 ⟨_,_,rfl,_,rfl,rfl⟩ ?_
 have hnl:=hw.nl
 have hcl:=hw.cl
 have hml:=(q0b (q0c.1 hw.door).1).2
 have fin:∀l mm (v:M.World) (n1 n2 n3:Nat),v=wDo w e→q01 mm 0=.var 38 [.own n2 v.convs.length,.sl 3 (v.door.map.map Pair.row),.own n1 v.door.flows.length,.own n3 v.nets.length]→q01 mm n1=.arr 130 8 (v.door.flows.map Flw.row)→q01 mm n2=.arr 91 10 (v.convs.map Conv.row)→q01 mm n3=.arr 54 7 (v.nets.map Pk.row)→[0,n1,n2,n3].Nodup →
  q6f [] 1 (λr o=>r=.tup []∧∃v,v=wDo w e∧o=[.var 38 [.own 2 v.convs.length,.sl 3 (v.door.map.map Pair.row),.own 1 v.door.flows.length,.own 3 v.nets.length],.arr 130 8 (v.door.flows.map Flw.row),.arr 91 10 (v.convs.map Conv.row),.arr 54 7 (v.nets.map Pk.row)]) .normal ⟨q0e l,q01 mm⟩:=λl mm v n1 n2 n3 h0 h1 h2 h3 h4 h5=>by
  show q6f _ _ _ .ret _
  refine q1h (.tup []) [.var 38 [.own 2 v.convs.length,.sl 3 (v.door.map.map Pair.row),.own 1 v.door.flows.length,.own 3 v.nets.length],.arr 130 8 (v.door.flows.map Flw.row),.arr 91 10 (v.convs.map Conv.row),.arr 54 7 (v.nets.map Pk.row)] [(1,n1),(2,n2),(3,n3)] (by simp only[go_sem,qe6]) ⟨rfl,v,h0,rfl⟩ ?_ (by simpa[q11,q0f] using h5) (by simp only[go_sem])
  simp only[go_sem,h1,h2,h3,h4]
 have opt_i:∀o:Option Pk,(bif o.isSome then some (o.getD .zero) else none)=o:=λo=>by cases o<;>rfl
 by_cases k1:e.kind=1
 ·have hk:=k1
  cases hbc:q0j e.a 0 ((w.convs.length:Int) - 1)
  ·have hx:wDo w e=w:=by simp[wDo,hk,q7l,hbc,q4y]
   simp only[qf9,go_sem,hk]
   with_reducible repeat' (first|rw[q00 (by omega)];try simp only[go_sem,hk,hbc]|refine br ?_ ?_<;>intro h e<;>(try simp only[e,go_sem,hk,hbc])<;>clear e|refine sd ?_<;>try simp only[go_sem,hk,hbc]|(first|refine cr (c27 ..) ?_)<;>try simp only[go_sem,hk,hbc]|fail)
   exact fin _ _ w 1 2 3 hx.symm (by simp only[go_sem]) (by simp only[go_sem]) (by simp only[go_sem]) (by simp only[go_sem]) (by decide)
  have hb2:=M.within_iff.1 hbc
  have hil:e.a.toNat<w.convs.length:=by omega
  have hg0:w.convs.getD e.a.toNat default=w.convs[e.a.toNat]:=by simp[List.getD,hil]
  have hcb:=q26 (hw.cv _ (List.getElem_mem hil))
  have hsw:q7l w true e.a e.b e.c=say w.convs[e.a.toNat] true 0 e.b e.c:=by simp only[q7l,hbc,if_true,zE hil];rfl
  have hx:wDo w e=q4y w (q7l w true e.a e.b e.c):=by simp[wDo,hk]
  have fs:=c66 w.convs[e.a.toNat] true 0 e.b e.c (by have:=hcb.up;omega) (by have:=hcb.down;omega)
  rw[hsw] at hx
  generalize w.convs[e.a.toNat]=cv at *
  simp only[qf9,go_sem,hk]
  with_reducible repeat' (first|rw[q00 (by omega)];try simp only[go_sem,hk,hbc,q03 hil,hg0]|refine br ?_ ?_<;>intro h e<;>(try simp only[e,go_sem,hk,hbc,q03 hil,hg0])<;>clear e|refine sd ?_<;>try simp only[go_sem,hk,hbc,q03 hil,hg0]|(first|refine cr (c27 ..) ?_|refine cr (fs ..) ?_)<;>try simp only[go_sem,hk,hbc,q03 hil,hg0]|fail)
  generalize say cv true 0 e.b e.c=o at *
  refine q1k (c81 w (o.getD .zero) o.isSome (by omega)) [0,1,2,3] [] true 48 4 (by simp only[go_sem];first|done|simp) (by simp only[go_sem];first|done|simp) (by simp) (by simp) (by simp) ?_ ?_ ?_
  ·rintro _ _ ⟨rfl,v,hv,rfl⟩
   exact⟨by simp,by simp,.inl rfl,λi hi=>by obtain rfl:i=0:=(by omega);simp[chH,q0h]⟩
  ·intro i hi
   rcases(show i=0∨i=1∨i=2∨i=3 by omega) with rfl|rfl|rfl|rfl<;>simp only[go_sem]
  rintro _ _ ⟨rfl,vv,hvv,rfl⟩
  simp only[go_sem]
  with_reducible repeat' (first|refine br ?_ ?_<;>intro h e<;>(try simp only[e,go_sem])<;>clear e|rw[q00 (by omega)]|refine sd ?_<;>try simp only[go_sem]|fail)
  rw[opt_i,←hx] at hvv
  exact fin _ _ vv 104801 104802 104803 hvv (by simp only[go_sem]) (by simp only[go_sem]) (by simp only[go_sem]) (by simp only[go_sem]) (by decide)
 by_cases k2:e.kind=2
 ·have hk:=k2
  cases hbc:q0j e.a 0 ((w.convs.length:Int) - 1)
  ·have hx:wDo w e=w:=by simp[wDo,hk,q7l,hbc,q4y]
   simp only[qf9,go_sem,hk]
   with_reducible repeat' (first|rw[q00 (by omega)];try simp only[go_sem,hk,hbc]|refine br ?_ ?_<;>intro h e<;>(try simp only[e,go_sem,hk,hbc])<;>clear e|refine sd ?_<;>try simp only[go_sem,hk,hbc]|(first|refine cr (c27 ..) ?_)<;>try simp only[go_sem,hk,hbc]|fail)
   exact fin _ _ w 1 2 3 hx.symm (by simp only[go_sem]) (by simp only[go_sem]) (by simp only[go_sem]) (by simp only[go_sem]) (by decide)
  have hb2:=M.within_iff.1 hbc
  have hil:e.a.toNat<w.convs.length:=by omega
  have hg0:w.convs.getD e.a.toNat default=w.convs[e.a.toNat]:=by simp[List.getD,hil]
  have hcb:=q26 (hw.cv _ (List.getElem_mem hil))
  have hsw:q7l w false e.a e.b e.c=say w.convs[e.a.toNat] false (portOf w.door.map w.convs[e.a.toNat].ins) e.b e.c:=by simp only[q7l,hbc,if_true,zE hil];rfl
  have hx:wDo w e=q4y w (q7l w false e.a e.b e.c):=by simp[wDo,hk]
  have hA:((e.a.toNat:Nat):Int)=e.a:=by omega
  have fp:=c67 w e.a.toNat hil (by omega)
  rw[hg0,hA] at fp
  have fs:=c66 w.convs[e.a.toNat] false (portOf w.door.map w.convs[e.a.toNat].ins) e.b e.c (by have:=hcb.up;omega) (by have:=hcb.down;omega)
  rw[hsw] at hx
  generalize w.convs[e.a.toNat]=cv at *
  simp only[qf9,go_sem,hk]
  with_reducible repeat' (first|rw[q00 (by omega)];try simp only[go_sem,hk,hbc,q03 hil,hg0]|refine br ?_ ?_<;>intro h e<;>(try simp only[e,go_sem,hk,hbc,q03 hil,hg0])<;>clear e|refine sd ?_<;>try simp only[go_sem,hk,hbc,q03 hil,hg0]|(first|refine cr (c27 ..) ?_)<;>try simp only[go_sem,hk,hbc,q03 hil,hg0]|fail)
  refine qnh fp [0,1,2,3] 68 4 (by simp only[go_sem];first|done|simp) (by simp only[go_sem];first|done|simp) (by simp) (by simp) ?_ ?_ ?_ ?_
  ·rintro _ _ ⟨rfl,rfl⟩
   exact⟨by simp,by simp,λi hi=>by rcases(show i=0∨i=1∨i=2∨i=3 by omega) with rfl|rfl|rfl|rfl<;>simp[chH,q0h]⟩
  ·intro i hi
   rcases(show i=0∨i=1∨i=2∨i=3 by omega) with rfl|rfl|rfl|rfl<;>simp only[go_sem]
  ·rintro _ _ ⟨rfl,rfl⟩ x hx
   simp only[go_sem,List.drop_succ_cons,List.drop_nil,List.append_nil,List.mem_cons,List.not_mem_nil,or_false] at hx
   rcases hx with rfl|rfl|rfl|rfl<;>simp only[go_sem]
  rintro _ _ ⟨rfl,rfl⟩
  simp only[go_sem]
  with_reducible repeat' (first|refine br ?_ ?_<;>intro h e<;>(try simp only[e,go_sem,hk,q03 hil,hg0])<;>clear e|rw[q00 (by omega)]|refine sd ?_<;>try simp only[go_sem,hk,q03 hil,hg0]|(first|refine cr (fs ..) ?_)<;>try simp only[go_sem,hk,q03 hil,hg0]|fail)
  generalize say cv false (portOf w.door.map cv.ins) e.b e.c=o at *
  refine q1k (c81 w (o.getD .zero) o.isSome (by omega)) [0,1,2,3] [] true 76 4 (by simp only[go_sem];first|done|simp) (by simp only[go_sem];first|done|simp) (by simp) (by simp) (by simp) ?_ ?_ ?_
  ·rintro _ _ ⟨rfl,v,hv,rfl⟩
   exact⟨by simp,by simp,.inl rfl,λi hi=>by obtain rfl:i=0:=(by omega);simp[chH,q0h]⟩
  ·intro i hi
   rcases(show i=0∨i=1∨i=2∨i=3 by omega) with rfl|rfl|rfl|rfl<;>simp only[go_sem]
  rintro _ _ ⟨rfl,vv,hvv,rfl⟩
  simp only[go_sem]
  with_reducible repeat' (first|refine br ?_ ?_<;>intro h e<;>(try simp only[e,go_sem])<;>clear e|rw[q00 (by omega)]|refine sd ?_<;>try simp only[go_sem]|fail)
  rw[opt_i,←hx] at hvv
  exact fin _ _ vv 107601 107602 107603 hvv (by simp only[go_sem]) (by simp only[go_sem]) (by simp only[go_sem]) (by simp only[go_sem]) (by decide)
 by_cases k3:e.kind=3
 ·have hk:=k3
  cases hbn:q0j e.a 0 ((w.nets.length:Int) - 1)
  ·have hx:wDo w e=w:=by simp[wDo,hk,hbn]
   simp only[qf9,go_sem,hk]
   with_reducible repeat' (first|rw[q00 (by omega)];try simp only[go_sem,hk,hbn]|refine br ?_ ?_<;>intro h e<;>(try simp only[e,go_sem,hk,hbn])<;>clear e|refine sd ?_<;>try simp only[go_sem,hk,hbn]|(first|refine cr (c27 ..) ?_)<;>try simp only[go_sem,hk,hbn]|fail)
   exact fin _ _ w 1 2 3 hx.symm (by simp only[go_sem]) (by simp only[go_sem]) (by simp only[go_sem]) (by simp only[go_sem]) (by decide)
  have hb2:=M.within_iff.1 hbn
  have hil:e.a.toNat<w.nets.length:=by omega
  have hg0:w.nets.getD e.a.toNat default=w.nets[e.a.toNat]:=by simp[List.getD,hil]
  have hg2:w.nets[e.a.toNat]?=some w.nets[e.a.toNat]:=zE hil
  have hA:((e.a.toNat:Nat):Int)=e.a:=by omega
  have hnp:=hw.net _ (List.mem_of_getElem? hg2)
  have hx:wDo w e=q4y (q2g { w with nets:=w.nets.eraseIdx e.a.toNat } w.nets[e.a.toNat]).1 (q2g { w with nets:=w.nets.eraseIdx e.a.toNat } w.nets[e.a.toNat]).2:=by simp[wDo,hk,hbn,hg2]
  have ft:=c83 w e.a.toNat hil (by omega)
  rw[hg0,hA] at ft
  generalize hp:w.nets[e.a.toNat]=p at *
  simp only[qf9,go_sem,hk]
  with_reducible repeat' (first|rw[q00 (by omega)];try simp only[go_sem,hk,hbn]|refine br ?_ ?_<;>intro h e<;>(try simp only[e,go_sem,hk,hbn])<;>clear e|refine sd ?_<;>try simp only[go_sem,hk,hbn]|(first|refine cr (c27 ..) ?_)<;>try simp only[go_sem,hk,hbn]|fail)
  refine q1k ft [0,1,2,3] [] true 89 4 (by simp only[go_sem];first|done|simp) (by simp only[go_sem];first|done|simp) (by simp) (by simp) (by simp) ?_ ?_ ?_
  ·rintro _ _ ⟨rfl,v,hv,rfl⟩
   exact⟨by simp,by simp,.inl rfl,λi hi=>by obtain rfl:i=0:=(by omega);simp[chH,q0h]⟩
  ·intro i hi
   rcases(show i=0∨i=1∨i=2∨i=3 by omega) with rfl|rfl|rfl|rfl<;>simp only[go_sem]
  rintro _ _ ⟨rfl,v,hv,rfl⟩
  simp only[go_sem]
  with_reducible repeat' (first|refine br ?_ ?_<;>intro h e<;>(try simp only[e,go_sem])<;>clear e|rw[q00 (by omega)]|refine sd ?_<;>try simp only[go_sem]|fail)
  rw[←hv] at hx
  have hwv:WX X v:=by rw[hv];exact hw.erase _
  have hcv:v.convs=w.convs:=by rw[hv]
  have hok:=(q6w hwv (by rw[hcv];exact hnp)).1
  refine q1k (x82 v p hwv hnp.pk) [0,108901,108902,108903] [] true 90 4 (by simp only[go_sem];first|done|simp) (by simp only[go_sem];first|done|simp) (by simp) (by simp) (by simp) ?_ ?_ ?_
  ·rintro _ _ ⟨q,rfl,hq,rfl⟩
   exact⟨by simp,by simp,.inl rfl,λi hi=>by obtain rfl:i=0:=(by omega);simp[chH,q0h]⟩
  ·intro i hi
   rcases(show i=0∨i=1∨i=2∨i=3 by omega) with rfl|rfl|rfl|rfl<;>simp only[go_sem]
  rintro _ _ ⟨q,rfl,hq,rfl⟩
  generalize q2g v p=r at *
  obtain⟨v1,o⟩:=r
  simp only at hok hx hq
  have hn1:=hok.nl
  simp only[go_sem]
  with_reducible repeat' (first|refine br ?_ ?_<;>intro h e<;>(try simp only[e,go_sem])<;>clear e|rw[q00 (by omega)]|refine sd ?_<;>try simp only[go_sem]|fail)
  refine q1k (c81 v1 q o.isSome (by omega)) [0,109001,109002,109003] [] true 93 4 (by simp only[go_sem];first|done|simp) (by simp only[go_sem];first|done|simp) (by simp) (by simp) (by simp) ?_ ?_ ?_
  ·rintro _ _ ⟨rfl,v,hv,rfl⟩
   exact⟨by simp,by simp,.inl rfl,λi hi=>by obtain rfl:i=0:=(by omega);simp[chH,q0h]⟩
  ·intro i hi
   rcases(show i=0∨i=1∨i=2∨i=3 by omega) with rfl|rfl|rfl|rfl<;>simp only[go_sem]
  rintro _ _ ⟨rfl,vv,hvv,rfl⟩
  simp only[go_sem]
  with_reducible repeat' (first|refine br ?_ ?_<;>intro h e<;>(try simp only[e,go_sem])<;>clear e|rw[q00 (by omega)]|refine sd ?_<;>try simp only[go_sem]|fail)
  have ho:(bif o.isSome then some q else none)=o:=by cases o with
   | none=>rfl
   | some q'=>rw[hq q' rfl];rfl
  rw[ho,←hx] at hvv
  exact fin _ _ vv 109301 109302 109303 hvv (by simp only[go_sem]) (by simp only[go_sem]) (by simp only[go_sem]) (by simp only[go_sem]) (by decide)
 by_cases k4:e.kind=4
 ·have hk:=k4
  cases hbn:q0j e.a 0 ((w.nets.length:Int) - 1)
  ·have hx:wDo w e=w:=by simp[wDo,hk,hbn]
   simp only[qf9,go_sem,hk]
   with_reducible repeat' (first|rw[q00 (by omega)];try simp only[go_sem,hk,hbn]|refine br ?_ ?_<;>intro h e<;>(try simp only[e,go_sem,hk,hbn])<;>clear e|refine sd ?_<;>try simp only[go_sem,hk,hbn]|(first|refine cr (c27 ..) ?_)<;>try simp only[go_sem,hk,hbn]|fail)
   exact fin _ _ w 1 2 3 hx.symm (by simp only[go_sem]) (by simp only[go_sem]) (by simp only[go_sem]) (by simp only[go_sem]) (by decide)
  have hb2:=M.within_iff.1 hbn
  have hil:e.a.toNat<w.nets.length:=by omega
  have hg0:w.nets.getD e.a.toNat default=w.nets[e.a.toNat]:=by simp[List.getD,hil]
  have hg2:w.nets[e.a.toNat]?=some w.nets[e.a.toNat]:=zE hil
  have hA:((e.a.toNat:Nat):Int)=e.a:=by omega
  have hnp:=hw.net _ (List.mem_of_getElem? hg2)
  have hx:wDo w e={ w with nets:=w.nets.eraseIdx e.a.toNat }:=by simp[wDo,hk,hbn]
  have ft:=c83 w e.a.toNat hil (by omega)
  rw[hg0,hA] at ft
  generalize hp:w.nets[e.a.toNat]=p at *
  simp only[qf9,go_sem,hk]
  with_reducible repeat' (first|rw[q00 (by omega)];try simp only[go_sem,hk,hbn]|refine br ?_ ?_<;>intro h e<;>(try simp only[e,go_sem,hk,hbn])<;>clear e|refine sd ?_<;>try simp only[go_sem,hk,hbn]|(first|refine cr (c27 ..) ?_)<;>try simp only[go_sem,hk,hbn]|fail)
  refine q1k ft [0,1,2,3] [] true 104 4 (by simp only[go_sem];first|done|simp) (by simp only[go_sem];first|done|simp) (by simp) (by simp) (by simp) ?_ ?_ ?_
  ·rintro _ _ ⟨rfl,v,hv,rfl⟩
   exact⟨by simp,by simp,.inl rfl,λi hi=>by obtain rfl:i=0:=(by omega);simp[chH,q0h]⟩
  ·intro i hi
   rcases(show i=0∨i=1∨i=2∨i=3 by omega) with rfl|rfl|rfl|rfl<;>simp only[go_sem]
  rintro _ _ ⟨rfl,v,hv,rfl⟩
  simp only[go_sem]
  with_reducible repeat' (first|refine br ?_ ?_<;>intro h e<;>(try simp only[e,go_sem])<;>clear e|rw[q00 (by omega)]|refine sd ?_<;>try simp only[go_sem]|fail)
  rw[←hx] at hv
  exact fin _ _ v 110401 110402 110403 hv (by simp only[go_sem]) (by simp only[go_sem]) (by simp only[go_sem]) (by simp only[go_sem]) (by decide)
 by_cases k5:e.kind=5
 ·have hk:=k5
  cases hbn:q0j e.a 0 ((w.nets.length:Int) - 1)
  ·have hx:wDo w e=w:=by simp[wDo,hk,hbn]
   simp only[qf9,go_sem,hk]
   with_reducible repeat' (first|rw[q00 (by omega)];try simp only[go_sem,hk,hbn]|refine br ?_ ?_<;>intro h e<;>(try simp only[e,go_sem,hk,hbn])<;>clear e|refine sd ?_<;>try simp only[go_sem,hk,hbn]|(first|refine cr (c27 ..) ?_)<;>try simp only[go_sem,hk,hbn]|fail)
   exact fin _ _ w 1 2 3 hx.symm (by simp only[go_sem]) (by simp only[go_sem]) (by simp only[go_sem]) (by simp only[go_sem]) (by decide)
  have hb2:=M.within_iff.1 hbn
  have hil:e.a.toNat<w.nets.length:=by omega
  have hg0:w.nets.getD e.a.toNat default=w.nets[e.a.toNat]:=by simp[List.getD,hil]
  have hg2:w.nets[e.a.toNat]?=some w.nets[e.a.toNat]:=zE hil
  have hA:((e.a.toNat:Nat):Int)=e.a:=by omega
  have hnp:=hw.net _ (List.mem_of_getElem? hg2)
  have hx:wDo w e=q4y w (some w.nets[e.a.toNat]):=by simp[wDo,hk,hbn,hg2]
  generalize w.nets[e.a.toNat]=p at *
  simp only[qf9,go_sem,hk]
  with_reducible repeat' (first|rw[q00 (by omega)];try simp only[go_sem,hk,hbn,q03 hil,hg0]|refine br ?_ ?_<;>intro h e<;>(try simp only[e,go_sem,hk,hbn,q03 hil,hg0])<;>clear e|refine sd ?_<;>try simp only[go_sem,hk,hbn,q03 hil,hg0]|(first|refine cr (c27 ..) ?_)<;>try simp only[go_sem,hk,hbn,q03 hil,hg0]|fail)
  refine q1k (c81 w p true (by omega)) [0,1,2,3] [] true 121 4 (by simp only[go_sem];first|done|simp) (by simp only[go_sem];first|done|simp) (by simp) (by simp) (by simp) ?_ ?_ ?_
  ·rintro _ _ ⟨rfl,v,hv,rfl⟩
   exact⟨by simp,by simp,.inl rfl,λi hi=>by obtain rfl:i=0:=(by omega);simp[chH,q0h]⟩
  ·intro i hi
   rcases(show i=0∨i=1∨i=2∨i=3 by omega) with rfl|rfl|rfl|rfl<;>simp only[go_sem]
  rintro _ _ ⟨rfl,vv,hvv,rfl⟩
  simp only[go_sem]
  with_reducible repeat' (first|refine br ?_ ?_<;>intro h e<;>(try simp only[e,go_sem])<;>clear e|rw[q00 (by omega)]|refine sd ?_<;>try simp only[go_sem]|fail)
  simp only[cond_true] at hvv
  rw[←hx] at hvv
  exact fin _ _ vv 112101 112102 112103 hvv (by simp only[go_sem]) (by simp only[go_sem]) (by simp only[go_sem]) (by simp only[go_sem]) (by decide)
 by_cases k6:e.kind=6
 ·have hk:=k6
  have fc:=c84D w.convs e (by omega)
  simp only[hk] at fc
  have f1:=c59 e.pkt ht
  have f2:=c86 e.pkt
  have hx:wDo w e=q4y w (bif q28 w e.pkt then some e.pkt else none):=by
   simp only[wDo,hk]
   cases q28 w e.pkt<;>simp[q4y]
  rw[qfp] at hx
  generalize w.convs.any (qp6 e.pkt)=ba at *
  generalize qbm e.pkt=bp at *
  generalize e.pkt.inward=bi at *
  simp only[qf9,go_sem,hk]
  with_reducible repeat' (first|rw[q00 (by omega)];try simp only[go_sem,hk,q5z]|refine br ?_ ?_<;>intro h e<;>(try simp only[e,go_sem,hk,q5z])<;>clear e|refine sd ?_<;>try simp only[go_sem,hk,q5z]|(first|refine cr (c27 ..) ?_)<;>try simp only[go_sem,hk,q5z]|fail)
  refine q34 fc [2,3000003] false (by simp only[go_sem,List.mem_cons,true_or,or_true]) (by simp only[List.mem_cons,List.not_mem_nil,or_false];rintro c (rfl|rfl)<;>simp only[go_sem]) rfl (.inr rfl) ?_
  cases ba<;>cases bp<;>cases bi
  all_goals
   simp only[go_sem]
   with_reducible repeat' (first|refine br ?_ ?_<;>intro h e<;>(try simp only[e,go_sem])<;>clear e|rw[q00 (by omega)]|refine sd ?_<;>try simp only[go_sem]|(first|refine cr (f1 ..) ?_|refine cr (f2 ..) ?_)<;>try simp only[go_sem]|fail)
  all_goals first
   | (
      refine q1k (c81 w e.pkt false (by omega)) [0,1,2,3] [] true 147 4 (by simp only[go_sem];first|done|simp) (by simp only[go_sem];first|done|simp) (by simp) (by simp) (by simp) ?_ ?_ ?_
      ·rintro _ _ ⟨rfl,v,hv,rfl⟩
       exact⟨by simp,by simp,.inl rfl,λi hi=>by obtain rfl:i=0:=(by omega);simp[chH,q0h]⟩
      ·intro i hi
       rcases(show i=0∨i=1∨i=2∨i=3 by omega) with rfl|rfl|rfl|rfl<;>simp only[go_sem]
      rintro _ _ ⟨rfl,vv,hvv,rfl⟩
      simp only[go_sem]
      with_reducible repeat' (first|refine br ?_ ?_<;>intro h e<;>(try simp only[e,go_sem])<;>clear e|rw[q00 (by omega)]|refine sd ?_<;>try simp only[go_sem]|fail)
      simp only[Bool.not_true,Bool.not_false,Bool.and_true,Bool.and_false,Bool.true_and,Bool.false_and,Bool.and_self,cond_true,cond_false] at hx hvv
      rw[←hx] at hvv
      exact fin _ _ vv 114701 114702 114703 hvv (by simp only[go_sem]) (by simp only[go_sem]) (by simp only[go_sem]) (by simp only[go_sem]) (by decide)
      done
      )
   | (
      refine q1k (c81 w e.pkt true (by omega)) [0,1,2,3] [] true 147 4 (by simp only[go_sem];first|done|simp) (by simp only[go_sem];first|done|simp) (by simp) (by simp) (by simp) ?_ ?_ ?_
      ·rintro _ _ ⟨rfl,v,hv,rfl⟩
       exact⟨by simp,by simp,.inl rfl,λi hi=>by obtain rfl:i=0:=(by omega);simp[chH,q0h]⟩
      ·intro i hi
       rcases(show i=0∨i=1∨i=2∨i=3 by omega) with rfl|rfl|rfl|rfl<;>simp only[go_sem]
      rintro _ _ ⟨rfl,vv,hvv,rfl⟩
      simp only[go_sem]
      with_reducible repeat' (first|refine br ?_ ?_<;>intro h e<;>(try simp only[e,go_sem])<;>clear e|rw[q00 (by omega)]|refine sd ?_<;>try simp only[go_sem]|fail)
      simp only[Bool.not_true,Bool.not_false,Bool.and_true,Bool.and_false,Bool.true_and,Bool.false_and,Bool.and_self,cond_true,cond_false] at hx hvv
      rw[←hx] at hvv
      exact fin _ _ vv 114701 114702 114703 hvv (by simp only[go_sem]) (by simp only[go_sem]) (by simp only[go_sem]) (by simp only[go_sem]) (by decide)
      done
      )
 have hx:wDo w e=w:=by simp[wDo, *]
 simp only[qf9,go_sem]
 with_reducible repeat' (first|rw[q00 (by omega)];try simp only[go_sem,eq_false k1,eq_false k2,eq_false k3,eq_false k4,eq_false k5,eq_false k6]|refine br ?_ ?_<;>intro h e<;>(try simp only[e,go_sem,eq_false k1,eq_false k2,eq_false k3,eq_false k4,eq_false k5,eq_false k6])<;>clear e|refine sd ?_<;>try simp only[go_sem,eq_false k1,eq_false k2,eq_false k3,eq_false k4,eq_false k5,eq_false k6]|(first|refine cr (c27 ..) ?_)<;>try simp only[go_sem,eq_false k1,eq_false k2,eq_false k3,eq_false k4,eq_false k5,eq_false k6]|fail)
 exact fin _ _ w 1 2 3 hx.symm (by simp only[go_sem]) (by simp only[go_sem]) (by simp only[go_sem]) (by simp only[go_sem]) (by decide)
def ic28:IC:=sR [oP 1 (.box 38 (.t 0)),oP 2 (.alloc 38 [.nils,.nils,.nils,.nils])] (.seq (.drw [0,1,3,7,0,16,63,0,128,511,1023,2047,4095] [(0,fD 3 0 1),(1,lD 4 1 3),(2,oP 5 (.call 61 [.t 4])),(3,oP 6 (.call 60 [.t 5])),(4,fD 7 1 1),(5,lA 8 2 7),(6,oP 9 (.call 62 [.t 8])),(7,fD 10 3 1),(8,lD 11 1 10),(9,oP 12 (.call 64 [.t 11])),(10,oP 13 (.call 63 [.t 12])),(11,oP 14 (.build [.nils,.nils,.nils,.nils] [(0,(1,.t 6)),(1,(2,.t 9)),(3,(1,.t 13))])),(12,nP (.sto 4 (.t 2) (.t 14)))]) .ret)
theorem dg28:Dg Tryz.prog 28 Tryz.f28 ic28 [(.cell 2 4 true)]:=⟨Tryz.func28,by kernel_rfl,by kernel_rfl⟩
theorem x28 {X:List (E×E)} (w:M.World) (hw:WX X w):FnR Tryz.prog G 28 [.agg [.sl 10 (w.convs.map Conv.row),.sl 3 (w.door.map.map Pair.row),.sl 8 (w.door.flows.map Flw.row),.sl 7 (w.nets.map Pk.row)]] (.agg [.sl 10 (w.convs.map Conv.row),.sl 3 (w.door.map.map Pair.row),.sl 8 (w.door.flows.map Flw.row),.sl 7 (w.nets.map Pk.row)]):=by
 refine mF dg28 Tryz.ntmps28 ?_
 have hnl:=hw.nl
 have hcl:=hw.cl
 obtain⟨hdm,hdf,_⟩:=q0c.1 hw.door
 have hml:=(q0b hdm).2
 simp only[ic28,go_sem]
 with_reducible repeat' (first|refine br ?_ ?_<;>intro h e<;>(try simp only[e,go_sem])<;>clear e|rw[q00 (by omega)]|refine sd ?_<;>try simp only[go_sem]|fail)
 refine q14 (c61 (w.convs.map Conv.row) (by simp;omega)) [] 5 1 (by simp only[go_sem];first|done|simp) (by simp) (by rintro _ _ ⟨rfl,rfl⟩;simp) (by intro i hi;obtain rfl:i=0:=(by omega);simp only[go_sem]) ?_
 rintro _ _ ⟨rfl,rfl⟩
 simp only[go_sem]
 with_reducible repeat' (first|refine br ?_ ?_<;>intro h e<;>(try simp only[e,go_sem])<;>clear e|rw[q00 (by omega)]|refine sd ?_<;>try simp only[go_sem]|fail)
 refine q1z (o60 (w.convs.map Conv.row) w.convs.length (by simp)) [100500] [] 6 1 (by simp only[go_sem];first|done|simp) (by simp only[go_sem];first|done|simp) (by simp) (by simp) (by rintro _ _ ⟨rfl,rfl⟩;simp) (by intro i hi;obtain rfl:i=0:=(by omega);simp only[go_sem]) ?_
 rintro _ _ ⟨rfl,rfl⟩
 simp only[go_sem]
 with_reducible repeat' (first|refine br ?_ ?_<;>intro h e<;>(try simp only[e,go_sem])<;>clear e|rw[q00 (by omega)]|refine sd ?_<;>try simp only[go_sem]|fail)
 refine q14 (k62 (w.door.map.map Pair.row) w.door.flows (by simp;omega) (by omega) (qmv hw.door)) [] 9 1 (by simp only[go_sem];first|done|simp) (by simp) (by rintro _ _ ⟨rfl,rfl⟩;simp) (by intro i hi;obtain rfl:i=0:=(by omega);simp only[go_sem]) ?_
 rintro _ _ ⟨rfl,rfl⟩
 simp only[go_sem]
 with_reducible repeat' (first|refine br ?_ ?_<;>intro h e<;>(try simp only[e,go_sem])<;>clear e|rw[q00 (by omega)]|refine sd ?_<;>try simp only[go_sem]|fail)
 refine q14 (c64 (w.nets.map Pk.row) (by simp;omega)) [] 12 1 (by simp only[go_sem];first|done|simp) (by simp) (by rintro _ _ ⟨rfl,rfl⟩;simp) (by intro i hi;obtain rfl:i=0:=(by omega);simp only[go_sem]) ?_
 rintro _ _ ⟨rfl,rfl⟩
 simp only[go_sem]
 with_reducible repeat' (first|refine br ?_ ?_<;>intro h e<;>(try simp only[e,go_sem])<;>clear e|rw[q00 (by omega)]|refine sd ?_<;>try simp only[go_sem]|fail)
 refine q1z (o63 (w.nets.map Pk.row) w.nets.length (by simp)) [101200] [] 13 1 (by simp only[go_sem];first|done|simp) (by simp only[go_sem];first|done|simp) (by simp) (by simp) (by rintro _ _ ⟨rfl,rfl⟩;simp) (by intro i hi;obtain rfl:i=0:=(by omega);simp only[go_sem]) ?_
 rintro _ _ ⟨rfl,rfl⟩
 simp only[go_sem]
 with_reducible repeat' (first|refine br ?_ ?_<;>intro h e<;>(try simp only[e,go_sem])<;>clear e|rw[q00 (by omega)]|refine sd ?_<;>try simp only[go_sem]|fail)
end Go.Proofs.YtpppoklkijmeoaaGreatDoor.W
