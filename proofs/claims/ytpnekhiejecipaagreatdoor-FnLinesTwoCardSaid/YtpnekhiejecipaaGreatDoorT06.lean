/- Part 6 of the proof: the walk over values, the plain model, contracts of the functions of the program. -/
import Derived.Test.YtpnekhiejecipaaGreatDoorT05
import Derived.Test.YtpnekhiejecipaaGreatDoorT02
import Derived.Test.YtpnekhiejecipaaGreatDoorT03
import Derived.Test.YtpnekhiejecipaaGreatDoorT04
set_option linter.all false
namespace Go.Proofs.YtpnekhiejecipaaGreatDoor.W
open Go Go.RowKit Go.Proofs Go.Proofs.YtpnekhiejecipaaGreatDoor.VL Go.Proofs.YtpnekhiejecipaaGreatDoor.M
def putA (m:List Pair) (s:Strm) (n:Int) (t:B) (out:Bool) (r:V) (o:List Hs):Prop :=
 (put m s n t out).1=m∧r=.tup [.own 0 m.length,.agg [.str (put m s n t out).2.1.inn,.sl 2 ((put m s n t out).2.1.parts.map Part.row)],.bool (put m s n t out).2.2]∧o=[.arr 145 3 (m.map Pair.row)]
def putB (m:List Pair) (s:Strm) (n:Int) (t:B) (out:Bool) (r:V) (o:List Hs):Prop :=
 (put m s n t out).2.2=true∧r=.tup [.own 1 (put m s n t out).1.length,.agg [.str (put m s n t out).2.1.inn,.sl 2 ((put m s n t out).2.1.parts.map Part.row)],.bool true]∧o=[.dead,.arr 145 3 ((put m s n t out).1.map Pair.row)]
theorem qib:Hs.live .dead=false:=of_eq_true (eq_self _)
theorem q9f (l:List Pc):q0w l []=[]:=by cases l<;>rfl
theorem q8o (l:B) (d n:Nat):(l.take ((d:Int)+(n:Int)).toNat).drop d=(l.drop d).take n:=by
 rw[List.drop_take];congr 1;omega
def qs3:IC:=sR [oP 6 (.box 167 (.t 1)),oP 10 (.mv (.c .nils)),oP 11 (.alloc 167 [s0,.nils]),oP 12 (.mv cF)] (sR [fD 21 0 6,lD 22 1 21,oP 23 (.lens (.t 22)),mV 13 23] (.seq (sR [mV 24 2,mV 25 13,bN 26 .gtr 24 25,mV 27 26,gF 28 27 (.mv (.t 2)),gF 29 27 (.mv (.t 3)),gF 30 27 (.lens (.t 29)),gF 31 27 (.bin .add (.t 28) (.t 30)),gF 32 27 (.bin .gtr (.t 31) (cI 40)),pT 33 27 32] (cD 33 (.seq (.drw [0,0,1,7,15] [(0,mV 34 0),(1,lA 35 2 6),(2,mV 10 34),(3,nP (.sto 2 (.t 11) (.t 35))),(4,oP 12 (.mv cF))]) .ret) .skip)) (.seq (sR [mV 36 2,mV 37 3,oP 38 (.lens (.t 37)),bN 39 .add 36 38,mV 40 13,bN 41 .leq 39 40] (cD 41 (.seq (.drw [0,0,1,7,15] [(0,mV 42 0),(1,lA 43 2 6),(2,mV 10 42),(3,nP (.sto 2 (.t 11) (.t 43))),(4,oP 12 (.mv cT))]) .ret) .skip)) (.seq (.drw [0,1,0,0,0,24,60,127,255] [(0,fD 44 0 6),(1,lD 45 1 44),(2,mV 46 3),(3,mV 47 13),(4,mV 48 2),(5,bN 49 .sub 47 48),(6,oP 50 (.sls (.t 46) (some (.t 49)) none)),(7,bN 51 .add 45 50),(8,mV 14 51)]) (sR [lA 52 2 6,oP 53 (.call 258 [.t 52]),mV 15 53] (sR [mV 54 14,oP 55 (.call 233 [.t 54]),mV 16 55] (sR [mV 56 14,oP 57 (.bsl 204 2 []),fD 58 1 6,lD 59 1 58,oP 60 (.app 204 2 (.t 57) (.t 59)),oP 61 (.build [s0,.nils] [(0,(1,.t 56)),(1,(1,.t 60))]),oP 17 (.alloc 167 [s0,.nils]),nP (.sto 2 (.t 17) (.t 61))] (.seq (sR [fD 62 1 6,lD 63 1 62,oP 64 (.len (.t 63)),mV 18 64] (.block 0 (.loop (.seq (sR [mV 65 18,mV 66 16,oP 67 (.len (.t 66)),bN 68 .lss 65 67] (cD 68 .skip (.exit 0))) (.seq (.block 1 (sR [mV 71 14,mV 72 15,mV 73 15,mV 74 16,mV 75 18,oP 76 (.iad 4 (.t 74) (.t 75)),fD 77 0 76,lD 78 1 77,bN 79 .add 73 78,oP 80 (.sls (.t 71) (some (.t 72)) (some (.t 79))),mV 19 80] (sR [oP 20 (.mv (.c s0))] (.seq (sR [mV 81 4] (cD 81 (.reg [mV 83 0,mV 84 16,mV 85 18,oP 86 (.iad 4 (.t 84) (.t 85)),lA 87 4 86,mV 88 19,oP 89 (.call 259 [.t 83,.t 87,.t 88]),mV 82 89,eX 90 82 0,eX 91 82 1,mV 0 90,mV 20 91]) (.reg [mV 92 0,mV 93 16,mV 94 18,oP 95 (.iad 4 (.t 93) (.t 94)),lA 96 4 95,mV 97 19,oP 98 (.call 260 [.t 92,.t 96,.t 97]),mV 20 98]))) (.seq (.drw [0,1,0,0,12,28,60,0,252,508,1023,2047,4095] [(0,fD 99 1 17),(1,lD 100 1 99),(2,mV 101 16),(3,mV 102 18),(4,oP 103 (.iad 4 (.t 101) (.t 102))),(5,fD 104 0 103),(6,lD 105 1 104),(7,mV 106 20),(8,oP 107 (.build [i0,s0] [(0,(1,.t 105)),(1,(1,.t 106))])),(9,oP 108 (.bsl 204 2 [.t 107])),(10,oP 109 (.app 204 2 (.t 100) (.t 108))),(11,fD 110 1 17),(12,nP (.sto 1 (.t 110) (.t 109)))]) (.reg [mV 111 15,mV 112 16,mV 113 18,oP 114 (.iad 4 (.t 112) (.t 113)),fD 115 0 114,lD 116 1 115,bN 117 .add 111 116,mV 15 117])))))) (.reg [mV 69 18,oP 70 (.bin .add (.t 69) (cI 1)),mV 18 70])))))) (.seq (.drw [0,0,1,7,15] [(0,mV 118 0),(1,lA 119 2 17),(2,mV 10 118),(3,nP (.sto 2 (.t 11) (.t 119))),(4,oP 12 (.mv cT))]) .ret)))))))))
theorem qzd:Dg Tryz.prog 238 Tryz.f238 qs3 [(.t 10),(.cell 11 2 true),(.t 12)]:=⟨Tryz.func238,by kernel_rfl,by kernel_rfl⟩
theorem qgh (m:List Pair) (s:Strm) (n:Int) (t:B) (out:Bool) (h:(q0b s.inn n t).2=false):put m s n t out=(m,s,false):=by simp[put,h]
theorem qwm (m:List Pair) {s:Strm} (n:Int) (t:B) (out:Bool) (hs:strmOk s=true) (h:¬(n>s.inn.length∨n+t.length>40)) (h2:n+t.length≤s.inn.length):put m s n t out=(m,s,true):=by
 have hb:q0b s.inn n t=(s.inn,true):=by
  unfold q0b;rw[if_neg (by simpa using h),if_pos h2]
 obtain⟨d1,d2⟩:=q26 hs
 have:(pieces s.inn).drop s.parts.length=[]:=by rw[d2,List.drop_length]
 simp[put,hb,this,turned,q0w]
theorem q7y:∀(l:List Pc) (m:List Pair) (s:B),(turned m l s false).1=m
 | [],m,s=>rfl
 | p::ps,m,s=>by simp only[turned];rw[q7y ps];rfl
theorem c238F (m:List Pair) (s:Strm) (n:Int) (t:B) (h:PutOk m s n t):FnP Tryz.prog G 238 1 [.arr 145 3 (m.map Pair.row)] [.own 0 m.length,.agg [.str s.inn,.sl 2 (s.parts.map Part.row)],.int .i64 n,.str t,.bool false] (putA m s n t false):=by
 refine mP qzd Tryz.ntmps238 ?_ ?_
 ·refine⟨_,_, ?_,rfl,rfl⟩
  cases hb:(q0b s.inn n t).2
  ·rw[qgh _ _ _ _ _ hb]
  ·simp[put,hb,q7y]
 obtain⟨hm,hs,hn,ht⟩:=h
 obtain⟨hp,hml⟩:=q0d hm
 obtain⟨s1,s2,s3⟩:=q0h hs
 have keep:∀l mm ok,put m s n t false=(m,s,ok)→q0i l 10=.own 0 m.length→q0i l 11=.pv 1011 0→q0i l 12=.bool ok→q0c mm 0=.arr 145 3 (m.map Pair.row)→q0c mm 1011=.var 167 [.str s.inn,.sl 2 (s.parts.map Part.row)] →
  q59 [.t 10,.cell 11 2 true,.t 12] 1 (putA m s n t false) .ret ⟨q0i l,q0c mm⟩:=λl mm ok h1 h2 h3 h4 h5 h6=>by
  refine q1m (.tup [.own 0 m.length,.agg [.str (put m s n t false).2.1.inn,.sl 2 ((put m s n t false).2.1.parts.map Part.row)],.bool (put m s n t false).2.2]) [.arr 145 3 (m.map Pair.row)] [] ?_ ⟨by rw[h1],rfl,rfl⟩ ?_ (by simp[q1c]) (by simp only[go_sem])
  ·simp only[go_sem,h1,h2,h3,h4,h6]
  ·simp only[go_sem,h5]
 simp only[qs3,go_sem]
 with_reducible repeat' (first|rw[q01 (by omega)];try simp only[go_sem]|refine br ?_ ?_<;>intro h e<;>(try simp only[e,go_sem])<;>clear e|refine sd ?_<;>try simp only[go_sem]|fail)
 ·exact keep _ _ _ (qgh _ _ _ _ _ (by unfold q0b;rw[if_pos (by simp;omega)])) (by simp only[go_sem]) (by simp only[go_sem]) (by simp only[go_sem]) (by simp only[go_sem]) (by simp only[go_sem])
 ·exact keep _ _ _ (qgh _ _ _ _ _ (by unfold q0b;rw[if_pos (by simp;omega)])) (by simp only[go_sem]) (by simp only[go_sem]) (by simp only[go_sem]) (by simp only[go_sem]) (by simp only[go_sem])
 ·exact keep _ _ _ (qwm _ _ _ _ hs (by omega) (by omega)) (by simp only[go_sem]) (by simp only[go_sem]) (by simp only[go_sem]) (by simp only[go_sem]) (by simp only[go_sem])
 have hb:q0b s.inn n t=(s.inn++t.drop (s.inn.length - n).toNat,true):=by
  unfold q0b;rw[if_neg (by simp;omega),if_neg (by omega)]
 have hbp:(q0b s.inn n t).2=true:=by rw[hb]
 have hfin:∀mm ts d,PutI m s (q0b s.inn n t).1 false mm ts (pieces (q0b s.inn n t).1).length d→_:=λmm ts d h=>qfh hbp h
 have h0:=PutI.init (x:=t.drop (s.inn.length - n).toNat) (out:=false) hp hs
 rw[hb] at hfin
 refine pureG (by simp;omega) ?_
 simp only[List.take_length,go_sem]
 generalize hin:s.inn++t.drop (s.inn.length - n).toNat=inn at *
 have hil:inn.length≤80:=by rw[←hin];simp;omega
 have hpl:=q4p inn
 with_reducible repeat' (first|rw[q01 (by omega)];try simp only[go_sem]|refine br ?_ ?_<;>intro h e<;>(try simp only[e,go_sem])<;>clear e|refine sd ?_<;>try simp only[go_sem]|fail)
 refine q0r (c258 s ⟨s1,s2,s3⟩) rfl rfl ?_
 simp only[go_sem]
 with_reducible repeat' (first|rw[q01 (by omega)];try simp only[go_sem]|refine br ?_ ?_<;>intro h e<;>(try simp only[e,go_sem])<;>clear e|refine sd ?_<;>try simp only[go_sem]|(first|refine cr (c233 ..) ?_)<;>try simp only[go_sem]|fail)
 refine q0v (λa:List B×Nat×Nat=>⟨q0i [(0,.own 0 m.length),(4,.bool false),(11,.pv 1011 0),(14,.str inn),(15,.int .i64 (a.2.2:Int)),(16,.sl 4 ((pieces inn).map Pc.row)),(17,.pv 1017 0),(18,.int .i64 (a.2.1:Int))],
  q0c [(0,.arr 145 3 (m.map Pair.row)),(1011,.var 167 [.str [],.nils]),(1017,.var 167 [.str inn,.own 1060 a.2.1]),(1060,.arr 204 2 ((s.parts++q0w ((pieces inn).drop s.parts.length) a.1).map Part.row))]⟩) (λa=>(pieces inn).length - a.2.1)
  (λa=>PutI m s inn false m a.1 a.2.1 a.2.2) ([],s.parts.length,doneP s.parts) ?_ h0 ?_
 ·refine leN [] (by simp only[go_sem];first|done|rfl) ?_ (by simp[q0o]) (by simp only[go_sem])
  simp only[go_sem];simp[q9f]
 intro⟨ts,i,d⟩ hI
 simp only at hI
 simp only[go_sem]
 have hi:=hI.hi
 by_cases h:(i:Int)<(pieces inn).length
 ·obtain⟨hst1,hst2⟩:=hI.step (by omega)
  have hml2:=q37 ((pieces inn).drop s.parts.length) ts (by have:=hI.ht;rw[List.length_drop];omega)
  have hml3:(s.parts++q0w ((pieces inn).drop s.parts.length) ts).length=i:=by rw[zA,hml2];exact hI.ht
  have hma:=q68 ((pieces inn).drop s.parts.length) ts (q2j m ((pieces inn).getD i default) ((inn.drop d).take ((pieces inn).getD i default).size)) (by have:=hI.ht;rw[List.length_drop];omega)
  have hgq:((pieces inn).drop s.parts.length).getD ts.length default=(pieces inn).getD i default:=by
   simp only[List.getD_eq_getElem?_getD,List.getElem?_drop,hI.ht]
  rw[hgq] at hma
  have hht:=hI.ht
  simp only[turn,cond_false] at hst2
  obtain⟨q,hq⟩:∃q,(pieces inn).getD i default=q:=⟨_,rfl⟩
  rw[hq] at hst1 hst2 hma
  simp only[eq_true h,go_sem]
  refine effG (by omega) ?_
  simp only[go_sem,hq]
  with_reducible repeat' (first|rw[q01 (by omega)];try simp only[go_sem,hq]|refine br ?_ ?_<;>intro h e<;>(try simp only[e,go_sem,hq])<;>clear e|refine sd ?_<;>try simp only[go_sem,hq]|fail)
  rw[q8o]
  refine q2p (c260 m q.size q.named q.e.a q.e.p ((inn.drop d).take q.size) hm) [0] false (by simp only[go_sem];first|done|simp[E.row,Pc.row,Pair.row,Part.row,Flw.row,Pk.row,Conv.row]) (by simp only[List.mem_singleton];rintro c rfl;rfl) rfl (.inr rfl) ?_
  simp only[go_sem,hq]
  with_reducible repeat' (first|rw[q01 (by omega)];try simp only[go_sem,hq]|refine br ?_ ?_<;>intro h e<;>(try simp only[e,go_sem,hq])<;>clear e|refine sd ?_<;>try simp only[go_sem,hq]|fail)
  refine⟨(ts++[q2j m q ((inn.drop d).take q.size)],i+1,d+q.size),by simp only;omega,hst2,leN [(1060,1109)] ?_ ?_ (by simp[q0o]) (by simp only[go_sem])⟩
  ·simp only[go_sem];simp
  ·simp only[go_sem,hma];simp[Part.row]
 ·simp only[eq_false h,go_sem]
  have:i=(pieces inn).length:=by omega
  subst this
  with_reducible repeat' (first|refine br ?_ ?_<;>intro h e<;>(try simp only[e,go_sem])<;>clear e|rw[q01 (by omega)]|refine sd ?_<;>try simp only[go_sem]|fail)
  have hfin:=hfin m ts d hI
  refine q1m (.tup [.own 0 m.length,.agg [.str inn,.sl 2 ((s.parts++q0w ((pieces inn).drop s.parts.length) ts).map Part.row)],.bool true]) [.arr 145 3 (m.map Pair.row)] [] ?_ ⟨by rw[hfin],by rw[hfin],rfl⟩ ?_ (by simp[q1c]) (by simp only[go_sem])
  ·simp only[go_sem]
   have:=hI.ht
   have:=q37 ((pieces inn).drop s.parts.length) ts (by rw[List.length_drop];omega)
   first|done|(simp;omega)
  ·simp only[go_sem]
def qv6 (m:List Pair) (s:Strm) (n:Int) (t:B) (out:Bool) (r:V) (o:List Hs):Prop:=putA m s n t out r o∨putB m s n t out r o
theorem c238T (m:List Pair) (s:Strm) (n:Int) (t:B) (h:PutOk m s n t):FnP Tryz.prog G 238 1 [.arr 145 3 (m.map Pair.row)] [.own 0 m.length,.agg [.str s.inn,.sl 2 (s.parts.map Part.row)],.int .i64 n,.str t,.bool true] (qv6 m s n t true):=by
 refine mP qzd Tryz.ntmps238 ?_ ?_
 ·cases hb:(q0b s.inn n t).2
  ·exact⟨_,_,.inl ⟨by rw[qgh _ _ _ _ _ hb],rfl,rfl⟩⟩
  ·exact⟨_,_,.inr ⟨by simp[put,hb],rfl,rfl⟩⟩
 obtain⟨hm,hs,hn,ht⟩:=h
 obtain⟨hp,hml⟩:=q0d hm
 obtain⟨s1,s2,s3⟩:=q0h hs
 have keep:∀l mm ok,put m s n t true=(m,s,ok)→q0i l 10=.own 0 m.length→q0i l 11=.pv 1011 0→q0i l 12=.bool ok→q0c mm 0=.arr 145 3 (m.map Pair.row)→q0c mm 1011=.var 167 [.str s.inn,.sl 2 (s.parts.map Part.row)] →
  q59 [.t 10,.cell 11 2 true,.t 12] 1 (qv6 m s n t true) .ret ⟨q0i l,q0c mm⟩:=λl mm ok h1 h2 h3 h4 h5 h6=>by
  refine q1m (.tup [.own 0 m.length,.agg [.str (put m s n t true).2.1.inn,.sl 2 ((put m s n t true).2.1.parts.map Part.row)],.bool (put m s n t true).2.2]) [.arr 145 3 (m.map Pair.row)] [] ?_ (.inl ⟨by rw[h1],rfl,rfl⟩) ?_ (by simp[q1c]) (by simp only[go_sem])
  ·simp only[go_sem,h1,h2,h3,h4,h6]
  ·simp only[go_sem,h5]
 simp only[qs3,go_sem]
 with_reducible repeat' (first|rw[q01 (by omega)];try simp only[go_sem]|refine br ?_ ?_<;>intro h e<;>(try simp only[e,go_sem])<;>clear e|refine sd ?_<;>try simp only[go_sem]|fail)
 ·exact keep _ _ _ (qgh _ _ _ _ _ (by unfold q0b;rw[if_pos (by simp;omega)])) (by simp only[go_sem]) (by simp only[go_sem]) (by simp only[go_sem]) (by simp only[go_sem]) (by simp only[go_sem])
 ·exact keep _ _ _ (qgh _ _ _ _ _ (by unfold q0b;rw[if_pos (by simp;omega)])) (by simp only[go_sem]) (by simp only[go_sem]) (by simp only[go_sem]) (by simp only[go_sem]) (by simp only[go_sem])
 ·exact keep _ _ _ (qwm _ _ _ _ hs (by omega) (by omega)) (by simp only[go_sem]) (by simp only[go_sem]) (by simp only[go_sem]) (by simp only[go_sem]) (by simp only[go_sem])
 have hb:q0b s.inn n t=(s.inn++t.drop (s.inn.length - n).toNat,true):=by
  unfold q0b;rw[if_neg (by simp;omega),if_neg (by omega)]
 have hbp:(q0b s.inn n t).2=true:=by rw[hb]
 have hfin:∀mm ts d,PutI m s (q0b s.inn n t).1 true mm ts (pieces (q0b s.inn n t).1).length d→_:=λmm ts d h=>qfh hbp h
 have h0:=PutI.init (x:=t.drop (s.inn.length - n).toNat) (out:=true) hp hs
 rw[hb] at hfin
 refine pureG (by simp;omega) ?_
 simp only[List.take_length,go_sem]
 generalize hin:s.inn++t.drop (s.inn.length - n).toNat=inn at *
 have hil:inn.length≤80:=by rw[←hin];simp;omega
 have hpl:=q4p inn
 with_reducible repeat' (first|rw[q01 (by omega)];try simp only[go_sem]|refine br ?_ ?_<;>intro h e<;>(try simp only[e,go_sem])<;>clear e|refine sd ?_<;>try simp only[go_sem]|fail)
 refine q0r (c258 s ⟨s1,s2,s3⟩) rfl rfl ?_
 simp only[go_sem]
 with_reducible repeat' (first|rw[q01 (by omega)];try simp only[go_sem]|refine br ?_ ?_<;>intro h e<;>(try simp only[e,go_sem])<;>clear e|refine sd ?_<;>try simp only[go_sem]|(first|refine cr (c233 ..) ?_)<;>try simp only[go_sem]|fail)
 refine q0v (λa:List Pair×List B×Nat×Nat=>⟨q0i [(0,.own 5000 a.1.length),(4,.bool true),(11,.pv 1011 0),(14,.str inn),(15,.int .i64 (a.2.2.2:Int)),(16,.sl 4 ((pieces inn).map Pc.row)),(17,.pv 1017 0),(18,.int .i64 (a.2.2.1:Int))],
  q0c [(0,.dead),(5000,.arr 145 3 (a.1.map Pair.row)),(1011,.var 167 [.str [],.nils]),(1017,.var 167 [.str inn,.own 1060 a.2.2.1]),(1060,.arr 204 2 ((s.parts++q0w ((pieces inn).drop s.parts.length) a.2.1).map Part.row))]⟩) (λa=>(pieces inn).length - a.2.2.1)
  (λa=>PutI m s inn true a.1 a.2.1 a.2.2.1 a.2.2.2) (m,[],s.parts.length,doneP s.parts) ?_ h0 ?_
 ·refine leN' [(5000,0)] (by simp only[go_sem];first|done|rfl) ?_ (by simp[qb5,q0o,qg0,qex,qib]) (by simp only[go_sem])
  simp only[go_sem];simp[q9f]
 intro⟨mm,ts,i,d⟩ hI
 simp only at hI
 simp only[go_sem]
 have hi:=hI.hi
 by_cases h:(i:Int)<(pieces inn).length
 ·obtain⟨hst1,hst2⟩:=hI.step (by omega)
  have hml2:=q37 ((pieces inn).drop s.parts.length) ts (by have:=hI.ht;rw[List.length_drop];omega)
  have hml3:(s.parts++q0w ((pieces inn).drop s.parts.length) ts).length=i:=by rw[zA,hml2];exact hI.ht
  have hma:=q68 ((pieces inn).drop s.parts.length) ts (q0q mm ((pieces inn).getD i default) ((inn.drop d).take ((pieces inn).getD i default).size)).2 (by have:=hI.ht;rw[List.length_drop];omega)
  have hgq:((pieces inn).drop s.parts.length).getD ts.length default=(pieces inn).getD i default:=by
   simp only[List.getD_eq_getElem?_getD,List.getElem?_drop,hI.ht]
  rw[hgq] at hma
  have hht:=hI.ht
  simp only[turn,cond_true] at hst2
  have hmml:=hI.ml
  obtain⟨q,hq⟩:∃q,(pieces inn).getD i default=q:=⟨_,rfl⟩
  rw[hq] at hst1 hst2 hma
  simp only[eq_true h,go_sem]
  refine effG (by omega) ?_
  simp only[go_sem,hq]
  with_reducible repeat' (first|rw[q01 (by omega)];try simp only[go_sem,hq]|refine br ?_ ?_<;>intro h e<;>(try simp only[e,go_sem,hq])<;>clear e|refine sd ?_<;>try simp only[go_sem,hq]|fail)
  rw[q8o]
  refine q25 (c259 mm q.size q.named q.e.a q.e.p ((inn.drop d).take q.size) hI.hp (by omega)) [5000] [] 89 1 (by simp only[go_sem];first|done|simp) (by simp only[go_sem];first|done|simp) (by simp) (by simp) (by rintro _ _ ⟨rfl,rfl⟩;simp) (by intro i hi;obtain rfl:i=0:=(by omega);simp only[go_sem]) ?_
  rintro _ _ ⟨rfl,rfl⟩
  simp only[go_sem,hq]
  with_reducible repeat' (first|rw[q01 (by omega)];try simp only[go_sem,hq]|refine br ?_ ?_<;>intro h e<;>(try simp only[e,go_sem,hq])<;>clear e|refine sd ?_<;>try simp only[go_sem,hq]|fail)
  refine⟨((q0q mm q ((inn.drop d).take q.size)).1,ts++[(q0q mm q ((inn.drop d).take q.size)).2],i+1,d+q.size),by simp only;omega,hst2,leN [(5000,108900),(1060,1109)] ?_ ?_ (by simp[q0o]) (by simp only[go_sem])⟩
  ·simp only[go_sem];simp
  ·simp only[go_sem,hma];simp[Part.row]
 ·simp only[eq_false h,go_sem]
  have:i=(pieces inn).length:=by omega
  subst this
  with_reducible repeat' (first|refine br ?_ ?_<;>intro h e<;>(try simp only[e,go_sem])<;>clear e|rw[q01 (by omega)]|refine sd ?_<;>try simp only[go_sem]|fail)
  have hfin:=hfin mm ts d hI
  refine q1m (.tup [.own 1 mm.length,.agg [.str inn,.sl 2 ((s.parts++q0w ((pieces inn).drop s.parts.length) ts).map Part.row)],.bool true]) [.dead,.arr 145 3 (mm.map Pair.row)] [(1,5000)] ?_ (.inr ⟨by rw[hfin],by rw[hfin],by rw[hfin]⟩) ?_ (by simp[q1c,q0o]) (by simp only[go_sem])
  ·simp only[go_sem]
   have:=hI.ht
   have:=q37 ((pieces inn).drop s.parts.length) ts (by rw[List.length_drop];omega)
   first|done|(simp;omega)
  ·simp only[go_sem]
def qys:IC:=sR [oP 3 (.box 167 (.t 0)),oP 4 (.box 167 (.t 1)),oP 5 (.box 65 (.t 2)),oP 6 (.alloc 65 [i0,i0,i0,i0,i0,i0,s0]),oP 7 (.mv cF)] (sR [lA 10 2 4,fD 11 5 5,lD 12 1 11,oP 13 (.call 261 [.t 10,.t 12]),mV 8 13] (sR [lA 14 2 4,fD 15 5 5,lD 16 1 15,fD 17 6 5,lD 18 1 17,oP 19 (.lens (.t 18)),bN 20 .add 16 19,fD 21 0 4,lD 22 1 21,oP 23 (.lens (.t 22)),oP 24 (.mn (.t 20) (.t 23)),oP 25 (.call 261 [.t 14,.t 24]),mV 9 25] (.seq (sR [fD 26 0 4,lD 27 1 26,oP 28 (.lens (.t 27)),fD 29 0 3,lD 30 1 29,oP 31 (.lens (.t 30)),bN 32 .gtr 28 31] (cD 32 (.reg [lA 33 2 4,oP 34 (.call 236 [.t 33]),oP 35 (.lens (.t 34)),mV 9 35]) .skip)) (.seq (sR [mV 36 8,mV 37 9,bN 38 .geq 36 37] (cD 38 (sR [oP 39 (.build [i0,i0,i0,i0,i0,i0,s0] []),nP (.sto 7 (.t 6) (.t 39)),oP 7 (.mv cF)] .ret) .skip)) (sR [mV 40 8,fD 41 5 5,nP (.sto 1 (.t 41) (.t 40))] (sR [lA 42 2 4,oP 43 (.call 236 [.t 42]),mV 44 8,mV 45 9,oP 46 (.sls (.t 43) (some (.t 44)) (some (.t 45))),fD 47 6 5,nP (.sto 1 (.t 47) (.t 46))] (.seq (.drw [0,0,2,6,14,1,63] [(0,lA 48 7 5),(1,fD 49 6 5),(2,lD 50 1 49),(3,oP 51 (.lens (.t 50))),(4,oP 52 (.bin .leq (.t 51) (cI 40))),(5,nP (.sto 7 (.t 6) (.t 48))),(6,mV 7 52)]) .ret)))))))
theorem dg239:Dg Tryz.prog 239 Tryz.f239 qys [(.cell 6 7 true),(.t 7)]:=⟨Tryz.func239,by kernel_rfl,by kernel_rfl⟩
theorem c239 (was is:Strm) (p:Pk) (h:StrB is) (hw:was.inn.length≤2000000) (hp : -10000≤p.at_∧p.at_≤9000) (ht:p.text.length≤1000) :
 FnR Tryz.prog G 239 [.agg [.str was.inn,.sl 2 (was.parts.map Part.row)],.agg [.str is.inn,.sl 2 (is.parts.map Part.row)],.agg [.int .i64 p.kind,.int .i64 p.frm.a,.int .i64 p.frm.p,.int .i64 p.to.a,.int .i64 p.to.p,.int .i64 p.at_,.str p.text]]
  (.tup [.agg (Pk.row (qb6 was is p).1),.bool (qb6 was is p).2]):=by
 refine mF dg239 Tryz.ntmps239 ?_
 have hso:=q3f h
 have h1:=q1v (l:=is.parts) p.at_
 have h2:=q9s was is p
 have hil:=h.1
 have f1:=c261 is p.at_ h (by omega)
 have f2:=c261 is (min (p.at_+p.text.length) is.inn.length) h (by omega)
 have f3:=c236 is h
 have e1:∀a b,q0s is.parts p.at_=a→toR was is p=b→qb6 was is p=if a≥b then(.zero,false)
  else({ p with at_:=a,text:=((sOut is).take b.toNat).drop a.toNat },decide ((((sOut is).take b.toNat).drop a.toNat).length≤40)):=λa b ha hb=>by subst ha;subst hb;rfl
 simp only[qys,go_sem]
 generalize hfr:q0s is.parts p.at_=fr at *
 by_cases hl:was.inn.length<is.inn.length
 ·have hto:toR was is p=(sOut is).length:=by simp[toR,hl]
  have e1:=e1 _ _ rfl hto
  rw[hto] at h2
  generalize hfr2:q0s is.parts (min (p.at_+p.text.length) is.inn.length)=fr2 at *
  with_reducible repeat' (first|refine br ?_ ?_<;>intro h e<;>(try simp only[e,go_sem])<;>clear e|rw[q01 (by omega)]|refine sd ?_<;>try simp only[go_sem]|(first|refine cr (f1 ..) ?_|refine cr (f2 ..) ?_|refine cr (f3 ..) ?_)<;>try simp only[go_sem]|fail)
  all_goals first
   | (exfalso;omega)
   | (rw[e1,if_pos (by omega)];simp[Pk.zero,E.zero];done)
   | (rw[e1,if_neg (by omega)];simp;done)
   | (rw[e1,if_neg (by omega)];simp;omega)
 ·have hto:toR was is p=q0s is.parts (min (p.at_+p.text.length) is.inn.length):=by simp[toR,hl]
  have e1:=e1 _ _ rfl hto
  rw[hto] at h2
  generalize hfr2:q0s is.parts (min (p.at_+p.text.length) is.inn.length)=fr2 at *
  with_reducible repeat' (first|refine br ?_ ?_<;>intro h e<;>(try simp only[e,go_sem])<;>clear e|rw[q01 (by omega)]|refine sd ?_<;>try simp only[go_sem]|(first|refine cr (f1 ..) ?_|refine cr (f2 ..) ?_|refine cr (f3 ..) ?_)<;>try simp only[go_sem]|fail)
  all_goals first
   | (exfalso;omega)
   | (rw[e1,if_pos (by omega)];simp[Pk.zero,E.zero];done)
   | (rw[e1,if_neg (by omega)];simp;done)
   | (rw[e1,if_neg (by omega)];simp;omega)
def z0A (c:Nat):Hs→V
 | .arr _ sz _=>.sl sz []
 | _=>.own c 0
theorem qjk (h:Nat→Hs) (c:Nat):z0V h (.own c 0)=z0A c (h c):=by cases hh:h c<;>simp[z0V,z0A,hh]
theorem ql8 (c ty sz:Nat) (rows:List (List V)):z0A c (.arr ty sz rows)=.sl sz []:=of_eq_true (eq_self _)
theorem qiv (h:Nat→Hs) (k n):z0V h (.int k n)=.int k n:=of_eq_true (eq_self _)
theorem qjp (h:Nat→Hs) (s):z0V h (.str s)=.str s:=of_eq_true (eq_self _)
theorem qk8 (c:Nat):z0N (.own c 0)=[c]:=of_eq_true (eq_self _)
theorem qhz (k n):z0N (.int k n)=[]:=of_eq_true (eq_self _)
theorem qhr (s):z0N (.str s)=[]:=of_eq_true (eq_self _)
theorem qn9 {o:Option Nat} (h:0≤ixI o):∃k,o=some k:=by
 cases o with
 | none=>simp[ixI] at h
 | some k=>exact⟨k,rfl⟩
theorem qmv {o:Option Nat} (h:ixI o<0):o=none:=qpz.1 h
def qx2 (d:Door) (i o:E) (r:V) (out:List Hs):Prop :=
 r=.tup [.agg [.own 0 (q0u d i o).1.map.length,.own 1 (q0u d i o).1.flows.length],.int .i64 (q0u d i o).2.1,.bool (q0u d i o).2.2]∧out=[.arr 145 3 ((q0u d i o).1.map.map Pair.row),.arr 169 8 ((q0u d i o).1.flows.map Flw.row)]
def qza:IC:=sR [oP 3 (.box 30 (.t 0)),oP 4 (.box 63 (.t 1)),oP 5 (.box 63 (.t 2)),oP 6 (.alloc 30 [.nils,.nils]),oP 7 (.mv (.c i0)),oP 8 (.mv cF)] (sR [fD 13 1 3,lD 14 1 13,lA 15 2 4,lA 16 2 5,oP 17 (.call 230 [.t 14,.t 15,.t 16]),mV 9 17] (.seq (sR [mV 18 9,oP 19 (.bin .geq (.t 18) (.c i0))] (cD 19 (sR [lA 20 2 3,mV 21 9,nP (.sto 2 (.t 6) (.t 20)),mV 7 21,oP 8 (.mv cT)] .ret) .skip)) (sR [fD 23 0 3,lD 24 1 23,lA 25 2 4,oP 26 (.call 235 [.t 24,.t 25]),mV 22 26,eX 27 22 0,eX 28 22 1,eX 29 22 2,mV 10 27,mV 11 28,mV 12 29] (.seq (sR [mV 30 12,oP 31 (.un .not (.t 30)),mV 32 31,gF 33 32 (.fad 1 (.t 3)),gF 34 32 (.ld 1 false (.t 33)),gF 35 32 (.len (.t 34)),gF 36 32 (.bin .geq (.t 35) (cI 4)),pT 37 32 36] (cD 37 (sR [lA 38 2 3,nP (.sto 2 (.t 6) (.t 38)),oP 7 (.mv (.c i0)),oP 8 (.mv cF)] .ret) .skip)) (sR [mV 39 10,fD 40 0 3,nP (.sto 1 (.t 40) (.t 39))] (sR [fD 41 1 3,lD 42 1 41,lA 43 2 4,lA 44 2 5,oP 45 (.bsl 204 2 []),oP 46 (.build [s0,.nils] [(1,(1,.t 45))]),oP 47 (.bsl 204 2 []),oP 48 (.build [s0,.nils] [(1,(1,.t 47))]),oP 49 (.build [i0,i0,i0,i0,s0,.nils,s0,.nils] [(0,(2,.t 43)),(2,(2,.t 44)),(4,(2,.t 46)),(6,(2,.t 48))]),oP 50 (.bsl 169 8 [.t 49]),oP 51 (.app 169 8 (.t 42) (.t 50)),fD 52 1 3,nP (.sto 1 (.t 52) (.t 51))] (.seq (.drw [0,0,2,6,14,1,63,127] [(0,lA 53 2 3),(1,fD 54 1 3),(2,lD 55 1 54),(3,oP 56 (.len (.t 55))),(4,oP 57 (.bin .sub (.t 56) (cI 1))),(5,nP (.sto 2 (.t 6) (.t 53))),(6,mV 7 57),(7,oP 8 (.mv cT))]) .ret)))))))
theorem dg234:Dg Tryz.prog 234 Tryz.f234 qza [(.cell 6 2 true),(.t 7),(.t 8)]:=⟨Tryz.func234,by kernel_rfl,by kernel_rfl⟩
theorem c234 (d:Door) (i o:E) (hm:mapOk d.map=true) (hf:d.flows.length≤3):FnP Tryz.prog G 234 0 [.arr 145 3 (d.map.map Pair.row),.arr 169 8 (d.flows.map Flw.row)]
 [.agg [.own 0 d.map.length,.own 1 d.flows.length],.agg [.int .i64 i.a,.int .i64 i.p],.agg [.int .i64 o.a,.int .i64 o.p]] (qx2 d i o):=by
 refine mP dg234 Tryz.ntmps234 ⟨_,_,rfl,rfl⟩ ?_
 obtain⟨hp,hml⟩:=q0d hm
 have keep:∀l mm k ok,q0u d i o=(d,k,ok)→q0i l 6=.pv 1006 0→q0i l 7=.int .i64 (k:Nat)→q0i l 8=.bool ok→q0c mm 1006=.var 30 [.own 0 d.map.length,.own 1 d.flows.length]→q0c mm 0=.arr 145 3 (d.map.map Pair.row)→q0c mm 1=.arr 169 8 (d.flows.map Flw.row) →
  q59 [.cell 6 2 true,.t 7,.t 8] 0 (qx2 d i o) .ret ⟨q0i l,q0c mm⟩:=λl mm k ok h1 h2 h3 h4 h5 h6 h7=>by
  refine q1m (.tup [.agg [.own 0 d.map.length,.own 1 d.flows.length],.int .i64 (k:Nat),.bool ok]) [.arr 145 3 (d.map.map Pair.row),.arr 169 8 (d.flows.map Flw.row)] [] ?_ ⟨by rw[h1],by rw[h1]⟩ ?_ (by simp[q1c,q0o]) (by simp only[go_sem])
  ·simp only[go_sem,h2,h3,h4,h5]
  ·simp only[go_sem,h6,h7]
 simp only[qza,go_sem]
 refine q2p (c230 d.flows i o (by omega)) [1] false (by simp only[go_sem];first|done|simp[E.row,Pc.row,Pair.row,Part.row,Flw.row,Pk.row,Conv.row]) (by simp only[List.mem_singleton];rintro c rfl;rfl) rfl (.inr rfl) ?_
 simp only[go_sem]
 with_reducible repeat' (first|refine br ?_ ?_<;>intro h e<;>(try simp only[e,go_sem])<;>clear e|rw[q01 (by omega)]|refine sd ?_<;>try simp only[go_sem]|fail)
 ·obtain⟨k,hk⟩:=qn9 h
  rw[hk]
  exact keep _ _ k true (q5d hk) (by simp only[go_sem]) (by simp only[go_sem];rfl) (by simp only[go_sem]) (by simp only[go_sem]) (by simp only[go_sem]) (by simp only[go_sem])
 have hno:=qmv (by omega:ixI (q0p d.flows i o)<0)
 refine q0m (c235 d.map i.a i.p hp (by omega)) [0] [] true 26 2 (by simp only[go_sem];first|done|simp) (by simp only[go_sem];first|done|simp) (by simp) (by simp) (by simp) ?_ ?_ ?_
 ·rintro res out (⟨_,rfl,rfl⟩|⟨rfl,rfl,_⟩)
  ·exact⟨by simp,by simp,.inl rfl,λi hi=>by obtain rfl:i=0:=(by omega);simp[chH,q09]⟩
  ·exact⟨by simp,by simp,.inl rfl,λi hi=>by obtain rfl:i=0:=(by omega);simp[chH,q09]⟩
 ·intro i hi
  have:i=0∨i=1:=by omega
  rcases this with rfl|rfl<;>simp only[go_sem]
 ·rintro res out (⟨h1,rfl,rfl⟩|⟨rfl,rfl,h3,_⟩)
  ·simp only[go_sem]
   cases hok:(mOut d.map i).2.2<;>simp only[go_sem]
   ·with_reducible repeat' (first|refine br ?_ ?_<;>intro h e<;>(try simp only[e,go_sem])<;>clear e|rw[q01 (by omega)]|refine sd ?_<;>try simp only[go_sem]|fail)
    exact keep _ _ 0 false (qbe hno hok) (by simp only[go_sem]) (by simp only[go_sem];first|done|rfl) (by simp only[go_sem]) (by simp only[go_sem]) (by simp only[go_sem]) (by simp only[go_sem])
   ·have hn:=q5g hno hok (by omega)
    with_reducible repeat' (first|refine br ?_ ?_<;>intro h e<;>(try simp only[e,go_sem])<;>clear e|rw[q01 (by omega)]|refine sd ?_<;>try simp only[go_sem]|fail)
    ·omega
    simp only[Bool.true_and,Bool.false_and,qjk,ql8,qiv,qjp,qk8,qhz,qhr,List.flatMap_cons,List.flatMap_nil,go_sem]
    with_reducible repeat' (first|refine br ?_ ?_<;>intro h e<;>(try simp only[e,go_sem])<;>clear e|rw[q01 (by omega)]|refine sd ?_<;>try simp only[go_sem]|fail)
    refine q1m (.tup [.agg [.own 0 d.map.length,.own 1 (d.flows.length+1)],.int .i64 (d.flows.length:Nat),.bool true]) [.arr 145 3 (d.map.map Pair.row),.arr 169 8 ((d.flows++[Flw.mk i o .zero .zero]).map Flw.row)] [(1,1051)] ?_ ⟨by rw[hn,h1];simp,by rw[hn,h1]⟩ ?_ (by simp[q1c,q0o]) (by simp only[go_sem])
    ·simp only[go_sem];first|done|omega
    ·simp only[go_sem];simp[Flw.row,Strm.zero]
  ·have hn:=q5g hno h3 (by omega)
   simp only[go_sem,h3]
   with_reducible repeat' (first|refine br ?_ ?_<;>intro h e<;>(try simp only[e,go_sem])<;>clear e|rw[q01 (by omega)]|refine sd ?_<;>try simp only[go_sem]|fail)
   ·omega
   simp only[Bool.true_and,Bool.false_and,qjk,ql8,qiv,qjp,qk8,qhz,qhr,List.flatMap_cons,List.flatMap_nil,go_sem]
   with_reducible repeat' (first|refine br ?_ ?_<;>intro h e<;>(try simp only[e,go_sem])<;>clear e|rw[q01 (by omega)]|refine sd ?_<;>try simp only[go_sem]|fail)
   refine q1m (.tup [.agg [.own 0 (mOut d.map i).1.length,.own 1 (d.flows.length+1)],.int .i64 (d.flows.length:Nat),.bool true]) [.arr 145 3 ((mOut d.map i).1.map Pair.row),.arr 169 8 ((d.flows++[Flw.mk i o .zero .zero]).map Flw.row)] [(0,102601),(1,1051)] ?_ ⟨by rw[hn];simp,by rw[hn]⟩ ?_ (by simp[q1c,q0o]) (by simp only[go_sem])
   ·simp only[go_sem];first|done|omega
   ·simp only[go_sem];simp[Flw.row,Strm.zero]
def qlr (x:Door×Option Pk) (r:V) (out:List Hs):Prop :=
 r=.tup [.agg [.own 0 x.1.map.length,.own 1 x.1.flows.length],.agg (Pk.row (x.2.getD .zero)),.bool x.2.isSome]∧out=[.arr 145 3 (x.1.map.map Pair.row),.arr 169 8 (x.1.flows.map Flw.row)]
theorem q1z {x:Door×Option Pk} {l:List (Nat×V)} {mm:List (Nat×Hs)} {d:Door} {q:Option Pk} (n0 n1:Nat) (hx:x=(d,q)) (h4:q0i l 4=.pv 1004 0) (h5:q0i l 5=.pv 1005 0) (h6:q0i l 6=.bool q.isSome)
 (m4:q0c mm 1004=.var 30 [.own n0 d.map.length,.own n1 d.flows.length]) (m5:q0c mm 1005=.var 65 (Pk.row (q.getD .zero))) (m0:q0c mm n0=.arr 145 3 (d.map.map Pair.row)) (m1:q0c mm n1=.arr 169 8 (d.flows.map Flw.row)) (hne:n0≠n1) :
 q59 [.cell 4 2 true,.cell 5 7 true,.t 6] 0 (qlr x) .ret ⟨q0i l,q0c mm⟩:=by
 subst hx
 refine q1m (.tup [.agg [.own 0 d.map.length,.own 1 d.flows.length],.agg (Pk.row (q.getD .zero)),.bool q.isSome]) [.arr 145 3 (d.map.map Pair.row),.arr 169 8 (d.flows.map Flw.row)] [(0,n0),(1,n1)] ?_ ⟨rfl,rfl⟩ ?_ (by simp[q1c,q0o,hne]) (by simp only[go_sem])
 ·simp only[go_sem,h4,h5,h6,m4,m5]
 ·simp only[go_sem,m0,m1]
def j1t:IC:=sR [oP 2 (.box 30 (.t 0)),oP 3 (.box 65 (.t 1)),oP 4 (.alloc 30 [.nils,.nils]),oP 5 (.alloc 65 [i0,i0,i0,i0,i0,i0,s0]),oP 6 (.mv cF)] (sR [lA 18 2 2,fD 19 1 3,lA 20 2 19,fD 21 3 3,lA 22 2 21,oP 23 (.call 234 [.t 18,.t 20,.t 22]),mV 17 23,eX 24 17 0,eX 25 17 1,eX 26 17 2,nP (.sto 2 (.t 2) (.t 24)),mV 7 25,mV 8 26] (.seq (sR [mV 27 8,oP 28 (.un .not (.t 27))] (cD 28 (sR [lA 29 2 2,oP 30 (.build [i0,i0,i0,i0,i0,i0,s0] []),nP (.sto 2 (.t 4) (.t 29)),nP (.sto 7 (.t 5) (.t 30)),oP 6 (.mv cF)] .ret) .skip)) (sR [fD 32 0 2,lD 33 1 32,fD 34 1 3,lA 35 2 34,oP 36 (.call 235 [.t 33,.t 35]),mV 31 36,eX 37 31 0,eX 38 31 1,eX 39 31 2,mV 9 37,mV 10 38,mV 11 39] (sR [mV 40 10,oP 41 (.build [i0,i0] [(0,(1,cI 9)),(1,(1,.t 40))]),oP 12 (.alloc 63 [i0,i0]),nP (.sto 2 (.t 12) (.t 41))] (sR [fD 42 1 2,lD 43 1 42,mV 44 7,oP 45 (.iad 8 (.t 43) (.t 44)),lA 46 8 45,oP 13 (.alloc 169 [i0,i0,i0,i0,s0,.nils,s0,.nils]),nP (.sto 8 (.t 13) (.t 46))] (.seq (sR [fD 47 0 3,lD 48 1 47,oP 49 (.bin .eql (.t 48) (cI 2))] (cD 49 (.seq (.seq (.drw [0,1,0,4,12,28,63] [(0,fD 50 5 3),(1,lD 51 1 50),(2,fD 52 6 13),(3,lA 53 2 52),(4,oP 54 (.call 236 [.t 53])),(5,oP 55 (.lens (.t 54))),(6,bN 56 .gtr 51 55)]) (cD 56 (sR [lA 57 2 2,oP 58 (.build [i0,i0,i0,i0,i0,i0,s0] []),nP (.sto 2 (.t 4) (.t 57)),nP (.sto 7 (.t 5) (.t 58)),oP 6 (.mv cF)] .ret) .skip)) (.seq (.drw [0,0,0,4,0,16,0,64,240,510,497,2047,4095] [(0,lA 59 2 2),(1,lA 60 2 12),(2,fD 61 3 3),(3,lA 62 2 61),(4,fD 63 6 13),(5,lA 64 2 63),(6,fD 65 5 3),(7,lD 66 1 65),(8,oP 67 (.call 237 [.t 64,.t 66])),(9,oP 68 (.build [i0,i0,i0,i0,i0,i0,s0] [(0,(1,cI 2)),(1,(2,.t 60)),(3,(2,.t 62)),(5,(1,.t 67))])),(10,nP (.sto 2 (.t 4) (.t 59))),(11,nP (.sto 7 (.t 5) (.t 68))),(12,oP 6 (.mv cT))]) .ret)) .skip)) (sR [fD 70 0 2,lD 71 1 70,fD 72 4 13,lA 73 2 72,fD 74 5 3,lD 75 1 74,fD 76 6 3,lD 77 1 76,oP 78 (.call 238 [.t 71,.t 73,.t 75,.t 77,cT]),mV 69 78,eX 79 69 0,eX 80 69 1,eX 81 69 2,oP 15 (.alloc 167 [s0,.nils]),mV 14 79,nP (.sto 2 (.t 15) (.t 80)),mV 8 81] (.seq (sR [mV 82 8,oP 83 (.un .not (.t 82))] (cD 83 (sR [lA 84 2 2,oP 85 (.build [i0,i0,i0,i0,i0,i0,s0] []),nP (.sto 2 (.t 4) (.t 84)),nP (.sto 7 (.t 5) (.t 85)),oP 6 (.mv cF)] .ret) .skip)) (sR [fD 87 4 13,lA 88 2 87,lA 89 2 15,lA 90 7 3,oP 91 (.call 239 [.t 88,.t 89,.t 90]),mV 86 91,eX 92 86 0,eX 93 86 1,oP 16 (.alloc 65 [i0,i0,i0,i0,i0,i0,s0]),nP (.sto 7 (.t 16) (.t 92)),mV 8 93] (sR [lA 94 2 15,fD 95 4 13,nP (.sto 2 (.t 95) (.t 94))] (sR [mV 96 14,fD 97 0 2,nP (.sto 1 (.t 97) (.t 96))] (sR [fD 98 1 2,lD 99 1 98,mV 100 7,lA 101 8 13,oP 102 (.iad 8 (.t 99) (.t 100)),nP (.sto 8 (.t 102) (.t 101))] (.seq (sR [mV 103 8,oP 104 (.un .not (.t 103))] (cD 104 (sR [lA 105 2 2,oP 106 (.build [i0,i0,i0,i0,i0,i0,s0] []),nP (.sto 2 (.t 4) (.t 105)),nP (.sto 7 (.t 5) (.t 106)),oP 6 (.mv cF)] .ret) .skip)) (sR [lA 107 2 12,fD 108 1 16,nP (.sto 2 (.t 108) (.t 107))] (.seq (.drw [0,0,1,7,15] [(0,lA 109 2 2),(1,lA 110 7 16),(2,nP (.sto 2 (.t 4) (.t 109))),(3,nP (.sto 7 (.t 5) (.t 110))),(4,oP 6 (.mv cT))]) .ret)))))))))))))))
theorem dg199:Dg Tryz.prog 199 Tryz.f199 j1t [(.cell 4 2 true),(.cell 5 7 true),(.t 6)]:=⟨Tryz.func199,by kernel_rfl,by kernel_rfl⟩
theorem c199 (d:Door) (p:Pk) (hd:doorOk d=true) (hl:d.flows.length≤3) (hp:PkP p) (hi:p.frm.inside=true) (ho:p.to.outside=true):FnP Tryz.prog G 199 0 [.arr 145 3 (d.map.map Pair.row),.arr 169 8 (d.flows.map Flw.row)]
 [.agg [.own 0 d.map.length,.own 1 d.flows.length],.agg [.int .i64 p.kind,.int .i64 p.frm.a,.int .i64 p.frm.p,.int .i64 p.to.a,.int .i64 p.to.p,.int .i64 p.at_,.str p.text]] (qlr (q5r d p)):=by
 refine mP dg199 Tryz.ntmps199 ⟨_,_,rfl,rfl⟩ ?_
 have hm:=(q07.1 hd).1
 have hyes:=λok=>q2q hd hi ho ok
 have hout:=λok=>q2f (p:=p) ok (hyes ok).kl
 have hno:=λok=>q45 (d:=d) (p:=p) ok
 have hno':=λok=>qng (d:=d) (i:=p.frm) (o:=p.to) ok
 simp only[j1t,go_sem]
 refine q25 (c234 d p.frm p.to hm hl) [0,1] [] 23 2 (by simp only[go_sem];first|done|simp) (by simp only[go_sem];first|done|simp) (by simp) (by simp) (by rintro _ _ ⟨rfl,rfl⟩;simp) (by intro i hi;rcases(show i=0∨i=1 by omega) with rfl|rfl<;>simp only[go_sem]) ?_
 rintro _ _ ⟨rfl,rfl⟩
 simp only[go_sem]
 generalize hx:q0u d p.frm p.to=x at *
 obtain⟨x,k,ok⟩:=x
 simp only at hyes hout hno hno'
 cases ok<;>simp only[go_sem]
 ·refine q1z 102300 102301 (hno rfl) ?_ ?_ ?_ ?_ ?_ ?_ ?_ (by decide)<;>simp only[go_sem,hno' rfl,Option.isSome_none,Option.getD_none,Pk.zero,E.zero]
 obtain⟨x1,x2,x3,x4,x5,x6,x7,x8⟩:=hyes rfl
 rw[hout rfl]
 obtain⟨xp,xl⟩:=q0d x1
 have hmo:=q5z (λp h=>(xp p h).1) x2
 clear hyes hout hno hno'
 refine q0m (c235 x.map p.frm.a p.frm.p xp (by omega)) [102300] [] true 36 2 (by simp only[go_sem];first|done|simp) (by simp only[go_sem];first|done|simp) (by simp) (by simp) (by simp) ?_ ?_ ?_
 ·rintro res out (⟨_,rfl,rfl⟩|⟨rfl,rfl,_⟩)
  ·exact⟨by simp,by simp,.inl rfl,λi hi=>by obtain rfl:i=0:=(by omega);simp[chH,q09]⟩
  ·exact⟨by simp,by simp,.inl rfl,λi hi=>by obtain rfl:i=0:=(by omega);simp[chH,q09]⟩
 ·intro i hi
  have:i=0∨i=1:=by omega
  rcases this with rfl|rfl<;>simp only[go_sem]
 intro res out hoA
 obtain⟨_,rfl,rfl⟩:=hoA.resolve_right (λh3=>h3.2.2.2 (by rw[hmo]))
 simp only[go_sem,hmo]
 have hg:x.flows.getD k default=Flw.at x k:=rfl
 rw[hg] at x6 x7
 have s1:=q0h x6
 have s2:=q0h x7
 have so:=q3f s2
 have hpa:=hp.at_
 have hpl:=hp.len
 have f1:=c236 (Flw.at x k).down s2
 have f2:=c237 (Flw.at x k).down p.at_ s2 (by omega)
 generalize hpo:portOf x.map p.frm=po at *
 with_reducible repeat' (first|refine br ?_ ?_<;>intro h e<;>(try simp only[e,go_sem,q00 x4,hg])<;>clear e|rw[q01 (by omega)]|refine sd ?_<;>try simp only[go_sem,q00 x4,hg]|(first|refine cr (f1 ..) ?_|refine cr (f2 ..) ?_)<;>try simp only[go_sem,q00 x4,hg]|fail)
 ·have:q66 x k p=(x,none):=by
   simp only[q66];rw[if_pos (by assumption),if_pos (by omega)]
  refine q1z 102300 102301 this ?_ ?_ ?_ ?_ ?_ ?_ ?_ (by decide)<;>simp only[go_sem,Option.isSome_none,Option.getD_none,Pk.zero,E.zero]
 ·have:q66 x k p=(x,some ⟨2,⟨9,po⟩,p.to,backP (Flw.at x k).down.parts p.at_,[]⟩):=by
   simp only[q66,hpo];rw[if_pos (by assumption),if_neg (by omega)]
  refine q1z 102300 102301 this ?_ ?_ ?_ ?_ ?_ ?_ ?_ (by decide)<;>simp only[go_sem,Option.isSome_some,Option.getD_some]
 have hpo2:PutOk x.map (Flw.at x k).up p.at_ p.text:=⟨x1,x6,hpa,hpl⟩
 refine q0m (c238T x.map (Flw.at x k).up p.at_ p.text hpo2) [102300] [] true 78 2 (by simp only[go_sem];first|done|simp) (by simp only[go_sem];first|done|simp) (by simp) (by simp) (by simp) ?_ ?_ ?_
 ·rintro res out (⟨_,rfl,rfl⟩|⟨_,rfl,rfl⟩)
  ·exact⟨by simp,by simp,.inl rfl,λi hi=>by obtain rfl:i=0:=(by omega);simp[chH,q09]⟩
  ·exact⟨by simp,by simp,.inl rfl,λi hi=>by obtain rfl:i=0:=(by omega);simp[chH,q09]⟩
 ·intro i hi
  have:i=0∨i=1:=by omega
  rcases this with rfl|rfl<;>simp only[go_sem]
 have htx:=hp.tx.resolve_left (by assumption)
 have hpk:=q4j (m:=x.map) (s:=(Flw.at x k).up) (n:=p.at_) (t:=p.text) (out:=true) x1 x6 htx hpa.1
 have hko:q66 x k p=if(put x.map (Flw.at x k).up p.at_ p.text true).2.2=false then(x,none)
  else(⟨(put x.map (Flw.at x k).up p.at_ p.text true).1,x.flows.set k { Flw.at x k with up:=(put x.map (Flw.at x k).up p.at_ p.text true).2.1 }⟩,
   (q1h (Flw.at x k).up (put x.map (Flw.at x k).up p.at_ p.text true).2.1 p).map λq=>{ q with frm:=⟨9,po⟩ }):=by
  simp only[q66,hpo];rw[if_neg (by assumption)]
 rintro res out (⟨h,rfl,rfl⟩|⟨h,rfl,rfl⟩)
 ·generalize hP:put x.map (Flw.at x k).up p.at_ p.text true=P at *
  obtain⟨m',s',ok'⟩:=P
  simp only at h hpk hko
  subst h
  cases ok'<;>simp only[go_sem]
  ·rw[if_pos rfl] at hko
   with_reducible repeat' (first|refine br ?_ ?_<;>intro h e<;>(try simp only[e,go_sem])<;>clear e|rw[q01 (by omega)]|refine sd ?_<;>try simp only[go_sem]|fail)
   refine q1z 102300 102301 hko ?_ ?_ ?_ ?_ ?_ ?_ ?_ (by decide)<;>simp only[go_sem,Option.isSome_none,Option.getD_none,Pk.zero,E.zero]
  rw[if_neg (by simp),qb1] at hko
  have f3:=c239 (Flw.at x k).up s' p (q0h hpk.2) (by have:=s1.1;omega) (by omega) (by omega)
  generalize hS:qb6 (Flw.at x k).up s' p=S at *
  obtain⟨q,okq⟩:=S
  simp only at hko
  cases okq
  all_goals
   with_reducible repeat' (first|refine br ?_ ?_<;>intro h e<;>(try simp only[e,go_sem])<;>clear e|rw[q01 (by omega)]|refine sd ?_<;>try simp only[go_sem]|(first|refine cr (f3 ..) ?_)<;>try simp only[go_sem]|fail)
  ·refine q1z (d:=⟨x.map,x.flows.set k { Flw.at x k with up:=s' }⟩) (q:=none) 102300 102301 (by rw[hko];rfl) ?_ ?_ ?_ ?_ ?_ ?_ ?_ (by decide)<;>simp only[go_sem,Option.isSome_none,Option.getD_none,Pk.zero,E.zero,List.map_set,List.length_set,q00 x4,hg]
  ·refine q1z (d:=⟨x.map,x.flows.set k { Flw.at x k with up:=s' }⟩) (q:=some { q with frm:=⟨9,po⟩ }) 102300 102301 (by rw[hko];rfl) ?_ ?_ ?_ ?_ ?_ ?_ ?_ (by decide)<;>simp only[go_sem,Option.isSome_some,Option.getD_some,List.map_set,List.length_set,q00 x4,hg]
 ·generalize hP:put x.map (Flw.at x k).up p.at_ p.text true=P at *
  obtain⟨m',s',ok'⟩:=P
  simp only at h hpk hko
  subst h
  simp only[go_sem]
  rw[if_neg (by simp),qb1] at hko
  have f3:=c239 (Flw.at x k).up s' p (q0h hpk.2) (by have:=s1.1;omega) (by omega) (by omega)
  generalize hS:qb6 (Flw.at x k).up s' p=S at *
  obtain⟨q,okq⟩:=S
  simp only at hko
  cases okq
  all_goals
   with_reducible repeat' (first|refine br ?_ ?_<;>intro h e<;>(try simp only[e,go_sem])<;>clear e|rw[q01 (by omega)]|refine sd ?_<;>try simp only[go_sem]|(first|refine cr (f3 ..) ?_)<;>try simp only[go_sem]|fail)
  ·refine q1z (d:=⟨m',x.flows.set k { Flw.at x k with up:=s' }⟩) (q:=none) 107801 102301 (by rw[hko];rfl) ?_ ?_ ?_ ?_ ?_ ?_ ?_ (by decide)<;>simp only[go_sem,Option.isSome_none,Option.getD_none,Pk.zero,E.zero,List.map_set,List.length_set,q00 x4,hg]
  ·refine q1z (d:=⟨m',x.flows.set k { Flw.at x k with up:=s' }⟩) (q:=some { q with frm:=⟨9,po⟩ }) 107801 102301 (by rw[hko];rfl) ?_ ?_ ?_ ?_ ?_ ?_ ?_ (by decide)<;>simp only[go_sem,Option.isSome_some,Option.getD_some,List.map_set,List.length_set,q00 x4,hg]
def qup:IC:=sR [oP 2 (.box 30 (.t 0)),oP 3 (.box 65 (.t 1)),oP 4 (.alloc 30 [.nils,.nils]),oP 5 (.alloc 65 [i0,i0,i0,i0,i0,i0,s0]),oP 6 (.mv cF)] (sR [fD 15 0 2,lD 16 1 15,fD 17 3 3,fD 18 1 17,lD 19 1 18,oP 20 (.call 240 [.t 16,.t 19]),mV 14 20,eX 21 14 0,eX 22 14 1,oP 7 (.alloc 63 [i0,i0]),nP (.sto 2 (.t 7) (.t 21)),mV 8 22] (sR [fD 23 1 2,lD 24 1 23,lA 25 2 7,fD 26 1 3,lA 27 2 26,oP 28 (.call 230 [.t 24,.t 25,.t 27]),mV 9 28] (.seq (sR [mV 29 8,oP 30 (.un .not (.t 29)),mV 31 30,gF 32 31 (.mv (.t 9)),gF 33 31 (.bin .lss (.t 32) (.c i0)),pT 34 31 33] (cD 34 (sR [lA 35 2 2,oP 36 (.build [i0,i0,i0,i0,i0,i0,s0] []),nP (.sto 2 (.t 4) (.t 35)),nP (.sto 7 (.t 5) (.t 36)),oP 6 (.mv cF)] .ret) .skip)) (sR [fD 37 1 2,lD 38 1 37,mV 39 9,oP 40 (.iad 8 (.t 38) (.t 39)),lA 41 8 40,oP 10 (.alloc 169 [i0,i0,i0,i0,s0,.nils,s0,.nils]),nP (.sto 8 (.t 10) (.t 41))] (.seq (sR [fD 42 0 3,lD 43 1 42,oP 44 (.bin .eql (.t 43) (cI 2))] (cD 44 (.seq (.seq (.drw [0,1,0,4,12,28,63] [(0,fD 45 5 3),(1,lD 46 1 45),(2,fD 47 4 10),(3,lA 48 2 47),(4,oP 49 (.call 236 [.t 48])),(5,oP 50 (.lens (.t 49))),(6,bN 51 .gtr 46 50)]) (cD 51 (sR [lA 52 2 2,oP 53 (.build [i0,i0,i0,i0,i0,i0,s0] []),nP (.sto 2 (.t 4) (.t 52)),nP (.sto 7 (.t 5) (.t 53)),oP 6 (.mv cF)] .ret) .skip)) (.seq (.drw [0,0,2,0,0,16,0,64,240,510,497,2047,4095] [(0,lA 54 2 2),(1,fD 55 1 3),(2,lA 56 2 55),(3,lA 57 2 7),(4,fD 58 4 10),(5,lA 59 2 58),(6,fD 60 5 3),(7,lD 61 1 60),(8,oP 62 (.call 237 [.t 59,.t 61])),(9,oP 63 (.build [i0,i0,i0,i0,i0,i0,s0] [(0,(1,cI 2)),(1,(2,.t 56)),(3,(2,.t 57)),(5,(1,.t 62))])),(10,nP (.sto 2 (.t 4) (.t 54))),(11,nP (.sto 7 (.t 5) (.t 63))),(12,oP 6 (.mv cT))]) .ret)) .skip)) (sR [fD 65 0 2,lD 66 1 65,fD 67 6 10,lA 68 2 67,fD 69 5 3,lD 70 1 69,fD 71 6 3,lD 72 1 71,oP 73 (.call 238 [.t 66,.t 68,.t 70,.t 72,cF]),mV 64 73,eX 74 64 0,eX 75 64 1,eX 76 64 2,oP 12 (.alloc 167 [s0,.nils]),mV 11 74,nP (.sto 2 (.t 12) (.t 75)),mV 8 76] (.seq (sR [mV 77 8,oP 78 (.un .not (.t 77))] (cD 78 (sR [lA 79 2 2,oP 80 (.build [i0,i0,i0,i0,i0,i0,s0] []),nP (.sto 2 (.t 4) (.t 79)),nP (.sto 7 (.t 5) (.t 80)),oP 6 (.mv cF)] .ret) .skip)) (sR [fD 82 6 10,lA 83 2 82,lA 84 2 12,lA 85 7 3,oP 86 (.call 239 [.t 83,.t 84,.t 85]),mV 81 86,eX 87 81 0,eX 88 81 1,oP 13 (.alloc 65 [i0,i0,i0,i0,i0,i0,s0]),nP (.sto 7 (.t 13) (.t 87)),mV 8 88] (sR [lA 89 2 12,fD 90 6 10,nP (.sto 2 (.t 90) (.t 89))] (sR [fD 91 1 2,lD 92 1 91,mV 93 9,lA 94 8 10,oP 95 (.iad 8 (.t 92) (.t 93)),nP (.sto 8 (.t 95) (.t 94))] (.seq (sR [mV 96 8,oP 97 (.un .not (.t 96))] (cD 97 (sR [lA 98 2 2,oP 99 (.build [i0,i0,i0,i0,i0,i0,s0] []),nP (.sto 2 (.t 4) (.t 98)),nP (.sto 7 (.t 5) (.t 99)),oP 6 (.mv cF)] .ret) .skip)) (sR [lA 100 2 7,fD 101 3 13,nP (.sto 2 (.t 101) (.t 100))] (.seq (.drw [0,0,1,7,15] [(0,lA 102 2 2),(1,lA 103 7 13),(2,nP (.sto 2 (.t 4) (.t 102))),(3,nP (.sto 7 (.t 5) (.t 103))),(4,oP 6 (.mv cT))]) .ret)))))))))))))
theorem dg200:Dg Tryz.prog 200 Tryz.f200 qup [(.cell 4 2 true),(.cell 5 7 true),(.t 6)]:=⟨Tryz.func200,by kernel_rfl,by kernel_rfl⟩
theorem c200 (d:Door) (p:Pk) (hd:doorOk d=true) (hp:PkP p) (hi:p.to.door=true):FnP Tryz.prog G 200 0 [.arr 145 3 (d.map.map Pair.row),.arr 169 8 (d.flows.map Flw.row)]
 [.agg [.own 0 d.map.length,.own 1 d.flows.length],.agg [.int .i64 p.kind,.int .i64 p.frm.a,.int .i64 p.frm.p,.int .i64 p.to.a,.int .i64 p.to.p,.int .i64 p.at_,.str p.text]] (qlr (dIn d p)):=by
 refine mP dg200 Tryz.ntmps200 ⟨_,_,rfl,rfl⟩ ?_
 obtain⟨hm,hfl,_⟩:=q07.1 hd
 have hdr:=E.door_iff.1 hi
 simp only[qup,go_sem]
 refine q2p (c240 d.map p.to.p hm (by omega)) [0] false (by simp only[go_sem];first|done|simp[E.row,Pc.row,Pair.row,Part.row,Flw.row,Pk.row,Conv.row]) (by simp only[List.mem_singleton];rintro c rfl;rfl) rfl (.inr rfl) ?_
 simp only[go_sem]
 cases hin:q0j d.map p.to.p with
 | none =>
   simp only[go_sem,Option.isSome_none,Option.getD_none,E.zero]
   refine q2p (c230 d.flows ⟨0,0⟩ p.frm (by omega)) [1] false (by simp only[go_sem];first|done|simp[E.row,Pc.row,Pair.row,Part.row,Flw.row,Pk.row,Conv.row]) (by simp only[List.mem_singleton];rintro c rfl;rfl) rfl (.inr rfl) ?_
   simp only[go_sem]
   with_reducible repeat' (first|refine br ?_ ?_<;>intro h e<;>(try simp only[e,go_sem])<;>clear e|rw[q01 (by omega)]|refine sd ?_<;>try simp only[go_sem]|fail)
   refine q1z (q:=none) 0 1 (q46 hin) ?_ ?_ ?_ ?_ ?_ ?_ ?_ (by decide)<;>simp only[go_sem,Option.isSome_none,Option.getD_none,Pk.zero,E.zero]
 | some i =>
   simp only[go_sem,Option.isSome_some,Option.getD_some]
   refine q2p (c230 d.flows i p.frm (by omega)) [1] false (by simp only[go_sem];first|done|simp[E.row,Pc.row,Pair.row,Part.row,Flw.row,Pk.row,Conv.row]) (by simp only[List.mem_singleton];rintro c rfl;rfl) rfl (.inr rfl) ?_
   simp only[go_sem]
   cases hf:q0p d.flows i p.frm with
   | none =>
     simp only[ixI,go_sem]
     with_reducible repeat' (first|refine br ?_ ?_<;>intro h e<;>(try simp only[e,go_sem])<;>clear e|rw[q01 (by omega)]|refine sd ?_<;>try simp only[go_sem]|fail)
     refine q1z (q:=none) 0 1 (q3p hin hf) ?_ ?_ ?_ ?_ ?_ ?_ ?_ (by decide)<;>simp only[go_sem,Option.isSome_none,Option.getD_none,Pk.zero,E.zero]
   | some k =>
     obtain⟨hk,hke⟩:=q39 hin hf
     rw[hke]
     have hg:d.flows.getD k default=Flw.at d k:=rfl
     have hfk:d.flows[k]?=some (Flw.at d k):=by simp[Flw.at,List.getD,hk]
     obtain⟨_,_,x6,x7,_⟩:=q1d hd hfk
     have s1:=q0h x6
     have s2:=q0h x7
     have so:=q3f s1
     have hpa:=hp.at_
     have hpl:=hp.len
     have f1:=c236 (Flw.at d k).up s1
     have f2:=c237 (Flw.at d k).up p.at_ s1 (by omega)
     have hlt:¬((k:Int)<0):=by omega
     simp only[ixI,go_sem,eq_false hlt]
     with_reducible repeat' (first|refine br ?_ ?_<;>intro h e<;>(try simp only[e,go_sem,q00 hk,hg])<;>clear e|rw[q01 (by omega)]|refine sd ?_<;>try simp only[go_sem,q00 hk,hg]|(first|refine cr (f1 ..) ?_|refine cr (f2 ..) ?_)<;>try simp only[go_sem,q00 hk,hg]|fail)
     ·have:inK d k i p=(d,none):=by
       simp only[inK];rw[if_pos (by assumption),if_pos (by omega)]
      refine q1z (q:=none) 0 1 this ?_ ?_ ?_ ?_ ?_ ?_ ?_ (by decide)<;>simp only[go_sem,Option.isSome_none,Option.getD_none,Pk.zero,E.zero]
     ·have:inK d k i p=(d,some ⟨2,p.frm,i,backP (Flw.at d k).up.parts p.at_,[]⟩):=by
       simp only[inK];rw[if_pos (by assumption),if_neg (by omega)]
      refine q1z 0 1 this ?_ ?_ ?_ ?_ ?_ ?_ ?_ (by decide)<;>simp only[go_sem,Option.isSome_some,Option.getD_some]
     refine q0m (c238F d.map (Flw.at d k).down p.at_ p.text ⟨hm,x7,hpa,hpl⟩) [0] [] true 73 1 (by simp only[go_sem];first|done|simp) (by simp only[go_sem];first|done|simp) (by simp) (by simp) (by simp) ?_ ?_ ?_
     ·rintro res out ⟨_,rfl,rfl⟩
      exact⟨by simp,by simp,.inl rfl,λi hi=>by obtain rfl:i=0:=(by omega);simp[chH,q09]⟩
     ·intro i hi
      obtain rfl:i=0:=by omega
      simp only[go_sem]
     have htx:=hp.tx.resolve_left (by assumption)
     have hpk:=q4j (m:=d.map) (s:=(Flw.at d k).down) (n:=p.at_) (t:=p.text) (out:=false) hm x7 htx hpa.1
     have hko:inK d k i p=if(put d.map (Flw.at d k).down p.at_ p.text false).2.2=false then(d,none)
      else(⟨d.map,d.flows.set k { Flw.at d k with down:=(put d.map (Flw.at d k).down p.at_ p.text false).2.1 }⟩,
       (q1h (Flw.at d k).down (put d.map (Flw.at d k).down p.at_ p.text false).2.1 p).map λq=>{ q with to:=i }):=by
      simp only[inK];rw[if_neg (by assumption)]
     rintro res out ⟨h,rfl,rfl⟩
     generalize hP:put d.map (Flw.at d k).down p.at_ p.text false=P at *
     obtain⟨m',s',ok'⟩:=P
     simp only at h hpk hko
     subst h
     cases ok'<;>simp only[go_sem]
     ·rw[if_pos rfl] at hko
      with_reducible repeat' (first|refine br ?_ ?_<;>intro h e<;>(try simp only[e,go_sem])<;>clear e|rw[q01 (by omega)]|refine sd ?_<;>try simp only[go_sem]|fail)
      refine q1z (q:=none) 0 1 hko ?_ ?_ ?_ ?_ ?_ ?_ ?_ (by decide)<;>simp only[go_sem,Option.isSome_none,Option.getD_none,Pk.zero,E.zero]
     rw[if_neg (by simp),qb1] at hko
     have f3:=c239 (Flw.at d k).down s' p (q0h hpk.2) (by have:=s2.1;omega) (by omega) (by omega)
     generalize hS:qb6 (Flw.at d k).down s' p=S at *
     obtain⟨q,okq⟩:=S
     simp only at hko
     cases okq
     all_goals
      with_reducible repeat' (first|refine br ?_ ?_<;>intro h e<;>(try simp only[e,go_sem])<;>clear e|rw[q01 (by omega)]|refine sd ?_<;>try simp only[go_sem]|(first|refine cr (f3 ..) ?_)<;>try simp only[go_sem]|fail)
     ·refine q1z (d:=⟨d.map,d.flows.set k { Flw.at d k with down:=s' }⟩) (q:=none) 0 1 (by rw[hko];rfl) ?_ ?_ ?_ ?_ ?_ ?_ ?_ (by decide)<;>simp only[go_sem,Option.isSome_none,Option.getD_none,Pk.zero,E.zero,List.map_set,List.length_set,q00 hk,hg]
     ·refine q1z (d:=⟨d.map,d.flows.set k { Flw.at d k with down:=s' }⟩) (q:=some { q with to:=i }) 0 1 (by rw[hko];rfl) ?_ ?_ ?_ ?_ ?_ ?_ ?_ (by decide)<;>simp only[go_sem,Option.isSome_some,Option.getD_some,List.map_set,List.length_set,q00 hk,hg]
def qzv:IC:=sR [oP 2 (.box 30 (.t 0)),oP 3 (.box 65 (.t 1)),oP 4 (.alloc 30 [.nils,.nils]),oP 5 (.alloc 65 [i0,i0,i0,i0,i0,i0,s0]),oP 6 (.mv cF)] (.seq (.block 0 (sR [fD 8 1 3,lA 9 2 8,oP 10 (.call 109 [.t 9]),mV 11 10,gT 12 11 (.fad 3 (.t 3)),gT 13 11 (.ld 2 true (.t 12)),gT 14 11 (.call 110 [.t 13]),pF 15 11 14,mV 7 15] (cD 7 (sR [lA 16 2 2,lA 17 7 3,oP 18 (.call 199 [.t 16,.t 17]),eX 19 18 0,eX 20 18 1,eX 21 18 2,nP (.sto 2 (.t 4) (.t 19)),nP (.sto 7 (.t 5) (.t 20)),mV 6 21] .ret) (sR [fD 23 1 3,lA 24 2 23,oP 25 (.call 110 [.t 24]),mV 26 25,gT 27 26 (.fad 3 (.t 3)),gT 28 26 (.ld 2 true (.t 27)),gT 29 26 (.call 119 [.t 28]),pF 30 26 29,mV 22 30] (cD 22 (sR [lA 31 2 2,lA 32 7 3,oP 33 (.call 200 [.t 31,.t 32]),eX 34 33 0,eX 35 33 1,eX 36 33 2,nP (.sto 2 (.t 4) (.t 34)),nP (.sto 7 (.t 5) (.t 35)),mV 6 36] .ret) .skip))))) (sR [lA 37 2 2,oP 38 (.build [i0,i0,i0,i0,i0,i0,s0] []),nP (.sto 2 (.t 4) (.t 37)),nP (.sto 7 (.t 5) (.t 38)),oP 6 (.mv cF)] .ret))
theorem dg163:Dg Tryz.prog 163 Tryz.f163 qzv [(.cell 4 2 true),(.cell 5 7 true),(.t 6)]:=⟨Tryz.func163,by kernel_rfl,by kernel_rfl⟩
theorem c163 (d:Door) (p:Pk) (hd:doorOk d=true) (hl:d.flows.length≤3) (hp:PkP p):FnP Tryz.prog G 163 0 [.arr 145 3 (d.map.map Pair.row),.arr 169 8 (d.flows.map Flw.row)]
 [.agg [.own 0 d.map.length,.own 1 d.flows.length],.agg [.int .i64 p.kind,.int .i64 p.frm.a,.int .i64 p.frm.p,.int .i64 p.to.a,.int .i64 p.to.p,.int .i64 p.at_,.str p.text]] (qlr (dPass d p)):=by
 refine mP dg163 Tryz.ntmps163 ⟨_,_,rfl,rfl⟩ ?_
 simp only[qzv,go_sem]
 with_reducible repeat' (first|refine br ?_ ?_<;>intro h e<;>(try simp only[e,go_sem])<;>clear e|rw[q01 (by omega)]|refine sd ?_<;>try simp only[go_sem]|(first|refine cr (qua ..) ?_|refine cr (qvl ..) ?_|refine cr (qle ..) ?_)<;>try simp only[go_sem]|fail)
 all_goals first
  | (have hx:dPass d p=(d,none):=by simp_all[dPass,Pk.outward,Pk.inward]
     refine q1z (q:=none) 0 1 hx ?_ ?_ ?_ ?_ ?_ ?_ ?_ (by decide)<;>simp only[go_sem,Option.isSome_none,Option.getD_none,Pk.zero,E.zero])
  | (have hx:dPass d p=q5r d p:=by simp_all[dPass,Pk.outward,Pk.inward]
     refine q25 (c199 d p hd hl hp (by assumption) (by assumption)) [0,1] [] 18 2 (by simp only[go_sem];first|done|simp) (by simp only[go_sem];first|done|simp) (by simp) (by simp) (by rintro _ _ ⟨rfl,rfl⟩;simp) (by intro i hi;rcases(show i=0∨i=1 by omega) with rfl|rfl<;>simp only[go_sem]) ?_
     rintro _ _ ⟨rfl,rfl⟩
     simp only[go_sem]
     refine q1z (d:=(q5r d p).1) (q:=(q5r d p).2) 101800 101801 hx ?_ ?_ ?_ ?_ ?_ ?_ ?_ (by decide)<;>simp only[go_sem])
  | (have hx:dPass d p=dIn d p:=by simp_all[dPass,Pk.outward,Pk.inward]
     refine q25 (c200 d p hd hp (by assumption)) [0,1] [] 33 2 (by simp only[go_sem];first|done|simp) (by simp only[go_sem];first|done|simp) (by simp) (by simp) (by rintro _ _ ⟨rfl,rfl⟩;simp) (by intro i hi;rcases(show i=0∨i=1 by omega) with rfl|rfl<;>simp only[go_sem]) ?_
     rintro _ _ ⟨rfl,rfl⟩
     simp only[go_sem]
     refine q1z (d:=(dIn d p).1) (q:=(dIn d p).2) 103300 103301 hx ?_ ?_ ?_ ?_ ?_ ?_ ?_ (by decide)<;>simp only[go_sem])
def qqt (x:M.World×Option Pk) (r:V) (out:List Hs):Prop:=r=.tup [.agg [.own 0 x.1.convs.length,.own 1 x.1.door.map.length,.own 2 x.1.door.flows.length,.own 3 x.1.nets.length],.agg (Pk.row (x.2.getD .zero)),.bool x.2.isSome]∧out=[.arr 69 10 (x.1.convs.map Conv.row),.arr 145 3 (x.1.door.map.map Pair.row),.arr 169 8 (x.1.door.flows.map Flw.row),.arr 65 7 (x.1.nets.map Pk.row)]
theorem q7k {x:M.World×Option Pk} {w:M.World} {q:Option Pk} {l:List (Nat×V)} {mm:List (Nat×Hs)} (n0 n1 n2 n3:Nat) (hx:x=(w,q)) (h4:q0i l 4=.pv 1004 0) (h5:q0i l 5=.pv 1005 0) (h6:q0i l 6=.bool q.isSome)
 (m4:q0c mm 1004=.var 33 [.own n0 w.convs.length,.own n1 w.door.map.length,.own n2 w.door.flows.length,.own n3 w.nets.length]) (m5:q0c mm 1005=.var 65 (Pk.row (q.getD .zero)))
 (m0:q0c mm n0=.arr 69 10 (w.convs.map Conv.row)) (m1:q0c mm n1=.arr 145 3 (w.door.map.map Pair.row)) (m2:q0c mm n2=.arr 169 8 (w.door.flows.map Flw.row)) (m3:q0c mm n3=.arr 65 7 (w.nets.map Pk.row))
 (hne:[n0,n1,n2,n3].Nodup):q59 [.cell 4 4 true,.cell 5 7 true,.t 6] 0 (qqt x) .ret ⟨q0i l,q0c mm⟩:=by
 subst hx
 refine q1m (.tup [.agg [.own 0 w.convs.length,.own 1 w.door.map.length,.own 2 w.door.flows.length,.own 3 w.nets.length],.agg (Pk.row (q.getD .zero)),.bool q.isSome]) [.arr 69 10 (w.convs.map Conv.row),.arr 145 3 (w.door.map.map Pair.row),.arr 169 8 (w.door.flows.map Flw.row),.arr 65 7 (w.nets.map Pk.row)] [(0,n0),(1,n1),(2,n2),(3,n3)] ?_ ⟨rfl,rfl⟩ ?_ (by simpa[q1c,q0o] using hne) (by simp only[go_sem])
 ·simp only[go_sem,h4,h5,h6,m4,m5]
 ·simp only[go_sem,m0,m1,m2,m3]
def j0g:IC:=sR [oP 3 (.box 69 (.t 0)),oP 5 (.box 65 (.t 2)),oP 6 (.alloc 69 [i0,i0,i0,i0,s0,s0,i0,i0,s0,s0]),oP 7 (.alloc 65 [i0,i0,i0,i0,i0,i0,s0]),oP 8 (.mv cF)] (sR [fD 10 3 5,lA 11 2 10,fD 12 1 5,lA 13 2 12,oP 14 (.build [i0,i0,i0,i0,i0,i0,s0] [(0,(1,cI 2)),(1,(2,.t 11)),(3,(2,.t 13))]),oP 9 (.alloc 65 [i0,i0,i0,i0,i0,i0,s0]),nP (.sto 7 (.t 9) (.t 14))] (.seq (sR [mV 15 1,mV 16 15,gT 17 16 (.fad 1 (.t 5)),gT 18 16 (.ld 2 true (.t 17)),gT 19 16 (.fad 2 (.t 3)),gT 20 16 (.ld 2 true (.t 19)),gT 21 16 (.eqs true [.i,.i] (.t 18) (.t 20)),gT 22 16 (.mv (.t 21)),gF 23 22 (.fad 3 (.t 5)),gF 24 22 (.ld 2 true (.t 23)),gF 25 22 (.fad 0 (.t 3)),gF 26 22 (.ld 2 true (.t 25)),gF 27 22 (.eqs true [.i,.i] (.t 24) (.t 26)),gT 28 16 (.pick (.t 22) cT (.t 27)),pF 29 16 28,mV 30 29,gF 31 30 (.mv (.t 1)),gF 32 30 (.un .not (.t 31)),gF 33 30 (.mv (.t 32)),gT 34 33 (.fad 3 (.t 5)),gT 35 33 (.ld 2 true (.t 34)),gT 36 33 (.fad 2 (.t 3)),gT 37 33 (.ld 2 true (.t 36)),gT 38 33 (.eqs true [.i,.i] (.t 35) (.t 37)),gT 39 33 (.mv (.t 38)),gF 40 39 (.fad 1 (.t 5)),gF 41 39 (.ld 2 true (.t 40)),gF 42 39 (.call 119 [.t 41]),gF 43 39 (.un .not (.t 42)),gT 44 33 (.pick (.t 39) cT (.t 43)),gF 45 30 (.pick (.t 33) (.t 44) cF),pT 46 30 45] (cD 46 (sR [lA 47 10 3,oP 48 (.build [i0,i0,i0,i0,i0,i0,s0] []),nP (.sto 10 (.t 6) (.t 47)),nP (.sto 7 (.t 7) (.t 48)),oP 8 (.mv cF)] .ret) .skip)) (.seq (.block 0 (sR [fD 60 0 5,lD 61 1 60,oP 62 (.bin .eql (.t 61) (cI 1)),mV 63 62,gT 64 63 (.mv (.t 1)),pF 65 63 64,mV 59 65] (cD 59 (sR [fD 67 9 3,lD 68 1 67,fD 69 5 5,lD 70 1 69,fD 71 6 5,lD 72 1 71,oP 73 (.call 241 [.t 68,.t 70,.t 72]),mV 66 73,eX 74 66 0,eX 75 66 1,fD 76 9 3,nP (.sto 1 (.t 76) (.t 74))] (sR [fD 77 9 3,lD 78 1 77,oP 79 (.lens (.t 78)),fD 80 5 9,nP (.sto 1 (.t 80) (.t 79))] (.seq (.drw [0,0,1,7,15] [(0,lA 81 10 3),(1,lA 82 7 9),(2,nP (.sto 10 (.t 6) (.t 81))),(3,nP (.sto 7 (.t 7) (.t 82))),(4,oP 8 (.mv cT))]) .ret))) (sR [fD 84 0 5,lD 85 1 84,oP 86 (.bin .eql (.t 85) (cI 1)),mV 83 86] (cD 83 (sR [fD 88 8 3,lD 89 1 88,fD 90 5 5,lD 91 1 90,fD 92 6 5,lD 93 1 92,oP 94 (.call 241 [.t 89,.t 91,.t 93]),mV 87 94,eX 95 87 0,eX 96 87 1,fD 97 8 3,nP (.sto 1 (.t 97) (.t 95))] (sR [fD 98 8 3,lD 99 1 98,oP 100 (.lens (.t 99)),fD 101 5 9,nP (.sto 1 (.t 101) (.t 100))] (.seq (.drw [0,0,1,7,15] [(0,lA 102 10 3),(1,lA 103 7 9),(2,nP (.sto 10 (.t 6) (.t 102))),(3,nP (.sto 7 (.t 7) (.t 103))),(4,oP 8 (.mv cT))]) .ret))) (sR [mV 105 1,mV 104 105] (cD 104 (.reg [fD 106 6 3,lD 107 1 106,fD 108 5 5,lD 109 1 108,fD 110 4 3,lD 111 1 110,oP 112 (.lens (.t 111)),oP 113 (.mn (.t 109) (.t 112)),oP 114 (.mx (.t 107) (.t 113)),fD 115 6 3,nP (.sto 1 (.t 115) (.t 114))]) (.reg [fD 49 7 3,lD 50 1 49,fD 51 5 5,lD 52 1 51,fD 53 5 3,lD 54 1 53,oP 55 (.lens (.t 54)),oP 56 (.mn (.t 52) (.t 55)),oP 57 (.mx (.t 50) (.t 56)),fD 58 7 3,nP (.sto 1 (.t 58) (.t 57))])))))))) (sR [lA 116 10 3,oP 117 (.build [i0,i0,i0,i0,i0,i0,s0] []),nP (.sto 10 (.t 6) (.t 116)),nP (.sto 7 (.t 7) (.t 117)),oP 8 (.mv cF)] .ret))))
theorem dg201:Dg Tryz.prog 201 Tryz.f201 j0g [(.cell 6 10 true),(.cell 7 7 true),(.t 8)]:=⟨Tryz.func201,by kernel_rfl,by kernel_rfl⟩
theorem c201 (c:Conv) (b:Bool) (p:Pk) (hc:CvB c) (hp:PkP p):FnR Tryz.prog G 201 [.agg [.int .i64 c.ins.a,.int .i64 c.ins.p,.int .i64 c.out.a,.int .i64 c.out.p,.str c.up,.str c.down,.int .i64 c.upAck,.int .i64 c.downAck,.str c.upGot,.str c.downGot],.bool b,.agg [.int .i64 p.kind,.int .i64 p.frm.a,.int .i64 p.frm.p,.int .i64 p.to.a,.int .i64 p.to.p,.int .i64 p.at_,.str p.text]]
 (.tup [.agg (Conv.row (hear c b p).1),.agg (Pk.row ((hear c b p).2.getD .zero)),.bool (hear c b p).2.isSome]):=by
 refine mF dg201 Tryz.ntmps201 ?_
 have h1:=hp.at_
 have h2:=hp.len
 have h3:=hc.upGot
 have h4:=hc.downGot
 have g1:=c241 c.upGot p.at_ p.text (by omega) (by omega) (by omega)
 have g2:=c241 c.downGot p.at_ p.text (by omega) (by omega) (by omega)
 simp only[j0g,go_sem]
 cases b<;>simp only[go_sem,E.ext_iff']
 all_goals
  with_reducible repeat' (first|refine br ?_ ?_<;>intro h e<;>(try simp only[e,go_sem,E.ext_iff'])<;>clear e|rw[q01 (by omega)]|refine sd ?_<;>try simp only[go_sem,E.ext_iff']|(first|refine cr (qle ..) ?_|refine cr (g1 ..) ?_|refine cr (g2 ..) ?_)<;>try simp only[go_sem,E.ext_iff']|fail)
 all_goals clear g1 g2
 all_goals first
  | (simp_all[hear,Pk.zero,E.zero];done)
  | (have hk:p.kind=2:=by have:=hp.kd;omega
     simp_all[hear,Pk.zero,E.zero];done)
def qwx:IC:=sR [oP 2 (.box 33 (.t 0)),oP 3 (.box 65 (.t 1)),oP 4 (.alloc 33 [.nils,.nils,.nils,.nils]),oP 5 (.alloc 65 [i0,i0,i0,i0,i0,i0,s0]),oP 6 (.mv cF)] (.seq (sR [oP 7 (.mv (.c i0))] (.block 0 (.loop (.seq (sR [mV 14 7,fD 15 0 2,lD 16 1 15,oP 17 (.len (.t 16)),bN 18 .lss 14 17] (cD 18 .skip (.exit 0))) (.seq (.block 1 (sR [fD 21 0 2,lD 22 1 21,mV 23 7,oP 24 (.iad 10 (.t 22) (.t 23)),lA 25 10 24,oP 8 (.alloc 69 [i0,i0,i0,i0,s0,s0,i0,i0,s0,s0]),nP (.sto 10 (.t 8) (.t 25))] (sR [fD 26 3 3,lA 27 2 26,fD 28 0 8,lA 29 2 28,oP 30 (.eqs false [.i,.i] (.t 27) (.t 29)),mV 31 30,gT 32 31 (.fad 1 (.t 3)),gT 33 31 (.ld 2 true (.t 32)),gT 34 31 (.fad 2 (.t 8)),gT 35 31 (.ld 2 true (.t 34)),gT 36 31 (.eqs false [.i,.i] (.t 33) (.t 35)),pF 37 31 36,mV 9 37] (.seq (.drw [0,1,0,4,15,31,63,127,255,511,1023,2047,2047,6143,16383,2047,34815,100351,262143,524287,1048575] [(0,fD 38 3 3),(1,lA 39 2 38),(2,fD 40 2 8),(3,lA 41 2 40),(4,oP 42 (.eqs false [.i,.i] (.t 39) (.t 41))),(5,mV 43 42),(6,gT 44 43 (.fad 1 (.t 3))),(7,gT 45 43 (.ld 2 true (.t 44))),(8,gT 46 43 (.call 119 [.t 45])),(9,pF 47 43 46),(10,mV 48 47),(11,gT 49 48 (.ld 4 true (.t 2))),(12,gT 50 48 (.fad 0 (.t 8))),(13,gT 51 48 (.ld 2 true (.t 50))),(14,gT 52 48 (.call 116 [.t 49,.t 51])),(15,gT 53 48 (.fad 1 (.t 3))),(16,gT 54 48 (.fad 1 (.t 53))),(17,gT 55 48 (.ld 1 false (.t 54))),(18,gT 56 48 (.bin .eql (.t 52) (.t 55))),(19,pF 57 48 56),(20,mV 10 57)]) (sR [mV 58 9,mV 59 58,gF 60 59 (.mv (.t 10)),pT 61 59 60] (cD 61 (sR [lA 63 10 8,mV 64 9,lA 65 7 3,oP 66 (.call 201 [.t 63,.t 64,.t 65]),mV 62 66,eX 67 62 0,eX 68 62 1,eX 69 62 2,oP 11 (.alloc 69 [i0,i0,i0,i0,s0,s0,i0,i0,s0,s0]),oP 12 (.alloc 65 [i0,i0,i0,i0,i0,i0,s0]),nP (.sto 10 (.t 11) (.t 67)),nP (.sto 7 (.t 12) (.t 68)),mV 13 69] (sR [fD 70 0 2,lD 71 1 70,mV 72 7,lA 73 10 11,oP 74 (.iad 10 (.t 71) (.t 72)),nP (.sto 10 (.t 74) (.t 73))] (.seq (.drw [0,0,0,1,11,31] [(0,lA 75 4 2),(1,lA 76 7 12),(2,mV 77 13),(3,nP (.sto 4 (.t 4) (.t 75))),(4,nP (.sto 7 (.t 5) (.t 76))),(5,mV 6 77)]) .ret))) .skip)))))) (.reg [mV 19 7,oP 20 (.bin .add (.t 19) (cI 1)),mV 7 20])))))) (sR [lA 78 4 2,oP 79 (.build [i0,i0,i0,i0,i0,i0,s0] []),nP (.sto 4 (.t 4) (.t 78)),nP (.sto 7 (.t 5) (.t 79)),oP 6 (.mv cF)] .ret))
theorem dg164:Dg Tryz.prog 164 Tryz.f164 qwx [(.cell 4 4 true),(.cell 5 7 true),(.t 6)]:=⟨Tryz.func164,by kernel_rfl,by kernel_rfl⟩
theorem x164 {X:List (E×E)} (w:M.World) (p:Pk) (hw:WX X w) (hp:PkP p):FnP Tryz.prog G 164 0 [.arr 69 10 (w.convs.map Conv.row),.arr 145 3 (w.door.map.map Pair.row),.arr 169 8 (w.door.flows.map Flw.row),.arr 65 7 (w.nets.map Pk.row)] [.agg [.own 0 w.convs.length,.own 1 w.door.map.length,.own 2 w.door.flows.length,.own 3 w.nets.length],.agg [.int .i64 p.kind,.int .i64 p.frm.a,.int .i64 p.frm.p,.int .i64 p.to.a,.int .i64 p.to.p,.int .i64 p.at_,.str p.text]] (qqt (qas w p)):=by
 refine mP dg164 Tryz.ntmps164 ⟨_,_,rfl,rfl⟩ ?_
 have hml:=(q0d (q07.1 hw.door).1).2
 have hcl:=hw.cl
 simp only[qwx,go_sem]
 refine q0v (λk:Nat=>⟨q0i [(2,.pv 1002 0),(3,.pv 1003 0),(4,.pv 1004 0),(5,.pv 1005 0),(7,.int .i64 (k:Int))],q0c [(1002,.var 33 [.own 0 w.convs.length,.own 1 w.door.map.length,.own 2 w.door.flows.length,.own 3 w.nets.length]),(1003,.var 65 [.int .i64 p.kind,.int .i64 p.frm.a,.int .i64 p.frm.p,.int .i64 p.to.a,.int .i64 p.to.p,.int .i64 p.at_,.str p.text]),(1004,.var 33 [.nils,.nils,.nils,.nils]),(1005,.var 65 [.int .i64 0,.int .i64 0,.int .i64 0,.int .i64 0,.int .i64 0,.int .i64 0,.str []]),(0,.arr 69 10 (w.convs.map Conv.row)),(1,.arr 145 3 (w.door.map.map Pair.row)),(2,.arr 169 8 (w.door.flows.map Flw.row)),(3,.arr 65 7 (w.nets.map Pk.row))]⟩)
  (λk=>w.convs.length - k) (λk=>k≤w.convs.length∧(w.convs.take k).any (q3u w p)=false) 0 (leQ []) ⟨Nat.zero_le _,by simp⟩ ?_
 intro k ⟨hk,ha⟩
 simp only[go_sem]
 by_cases h:(k:Int)<w.convs.length
 ·have hil:k<w.convs.length:=by omega
  have hg:w.convs.getD k default=w.convs[k]:=by simp[List.getD,hil]
  have hat:=q89 (w:=w) (p:=p) hil ha
  have hstep:q3u w p w.convs[k]=false→(w.convs.take (k+1)).any (q3u w p)=false:=λhm=>by
   rw[List.take_add_one,zE hil]
   simp only[Option.toList_some,List.any_append,ha,List.any_cons,List.any_nil,Bool.or_false,Bool.false_or,hm]
  have hB:=q20 (hw.cv _ (List.getElem_mem hil))
  rw[qfm] at hat hstep
  simp only[eq_comm (a:=p.frm.p)] at hat hstep
  simp only[eq_true h,go_sem]
  generalize hc:w.convs[k]=c at *
  generalize hinw:(decide (p.to=c.ins)&&decide (p.frm=c.out))=inw at *
  have g1:=λb=>c201 c b p hB hp
  have g2:=c116 w c.ins (by omega)
  with_reducible repeat' (first|refine br ?_ ?_<;>intro h e<;>(try simp only[e,go_sem,q00 hil,hg,hc,E.ext_iff'])<;>clear e|rw[q01 (by omega)]|refine sd ?_<;>try simp only[go_sem,q00 hil,hg,hc,E.ext_iff']|(first|refine cr (qle ..) ?_|refine cf (g2 ..) [0,1,2,3] ?_|refine cr (g1 ..) ?_)<;>try simp only[go_sem,q00 hil,hg,hc,E.ext_iff']|fail)
  all_goals clear g1 g2
  all_goals first
   | (refine⟨k+1,by omega,⟨by omega,hstep ?_⟩,(leQ [])⟩
      simp_all;done)
   | (have hh:=hat (by simp_all)
      have hi:inw=true:=by simp_all
      rw[hi] at hh
      refine q7k (w:={ w with convs:=w.convs.set k (hear c true p).1 }) (q:=(hear c true p).2) 0 1 2 3 hh ?_ ?_ ?_ ?_ ?_ ?_ ?_ ?_ ?_ (by decide)
      all_goals simp only[go_sem,List.map_set,List.length_set,q00 hil,hg]
      done)
   | (have hh:=hat (by simp_all)
      have hi:inw=false:=by simp_all
      rw[hi] at hh
      refine q7k (w:={ w with convs:=w.convs.set k (hear c false p).1 }) (q:=(hear c false p).2) 0 1 2 3 hh ?_ ?_ ?_ ?_ ?_ ?_ ?_ ?_ ?_ (by decide)
      all_goals simp only[go_sem,List.map_set,List.length_set,q00 hil,hg]
      done)
 ·simp only[eq_false h,go_sem]
  have:k=w.convs.length:=by omega
  subst this
  rw[List.take_length] at ha
  rw[qeq ha]
  refine q7k (q:=none) 0 1 2 3 rfl ?_ ?_ ?_ ?_ ?_ ?_ ?_ ?_ ?_ (by decide)<;>simp only[go_sem,Option.isSome_none,Option.getD_none,Pk.zero,E.zero]
def qxy:IC:=sR [oP 2 (.box 33 (.t 0)),oP 3 (.box 65 (.t 1)),oP 4 (.alloc 33 [.nils,.nils,.nils,.nils]),oP 5 (.alloc 65 [i0,i0,i0,i0,i0,i0,s0]),oP 6 (.mv cF)] (.seq (sR [fD 10 3 3,lA 11 2 10,oP 12 (.call 119 [.t 11]),mV 13 12,gF 14 13 (.fad 1 (.t 3)),gF 15 13 (.ld 2 true (.t 14)),gF 16 13 (.call 109 [.t 15]),pT 17 13 16] (cD 17 (sR [fD 19 1 2,lA 20 2 19,lA 21 7 3,oP 22 (.call 163 [.t 20,.t 21]),mV 18 22,eX 23 18 0,eX 24 18 1,eX 25 18 2,oP 7 (.alloc 30 [.nils,.nils]),oP 8 (.alloc 65 [i0,i0,i0,i0,i0,i0,s0]),nP (.sto 2 (.t 7) (.t 23)),nP (.sto 7 (.t 8) (.t 24)),mV 9 25] (sR [lA 26 2 7,fD 27 1 2,nP (.sto 2 (.t 27) (.t 26))] (.seq (.drw [0,0,0,1,11,31] [(0,lA 28 4 2),(1,lA 29 7 8),(2,mV 30 9),(3,nP (.sto 4 (.t 4) (.t 28))),(4,nP (.sto 7 (.t 5) (.t 29))),(5,mV 6 30)]) .ret))) .skip)) (sR [lA 31 4 2,lA 32 7 3,oP 33 (.call 164 [.t 31,.t 32]),eX 34 33 0,eX 35 33 1,eX 36 33 2,nP (.sto 4 (.t 4) (.t 34)),nP (.sto 7 (.t 5) (.t 35)),mV 6 36] .ret))
theorem dg117:Dg Tryz.prog 117 Tryz.f117 qxy [(.cell 4 4 true),(.cell 5 7 true),(.t 6)]:=⟨Tryz.func117,by kernel_rfl,by kernel_rfl⟩
theorem x117 {X:List (E×E)} (w:M.World) (p:Pk) (hw:WX X w) (hp:PkP p):FnP Tryz.prog G 117 0 [.arr 69 10 (w.convs.map Conv.row),.arr 145 3 (w.door.map.map Pair.row),.arr 169 8 (w.door.flows.map Flw.row),.arr 65 7 (w.nets.map Pk.row)] [.agg [.own 0 w.convs.length,.own 1 w.door.map.length,.own 2 w.door.flows.length,.own 3 w.nets.length],.agg [.int .i64 p.kind,.int .i64 p.frm.a,.int .i64 p.frm.p,.int .i64 p.to.a,.int .i64 p.to.p,.int .i64 p.at_,.str p.text]] (qqt (carry w p)):=by
 refine mP dg117 Tryz.ntmps117 ⟨_,_,rfl,rfl⟩ ?_
 have hdoor:(p.to.door=true∨p.frm.inside=true)→carry w p=({ w with door:=(dPass w.door p).1 },(dPass w.door p).2):=λh=>q2v (by simpa using h)
 have hhost:p.to.door=false→p.frm.inside=false→carry w p=qas w p:=λh1 h2=>q5u (by simp[h1,h2])
 simp only[qxy,go_sem]
 with_reducible repeat' (first|refine br ?_ ?_<;>intro h e<;>(try simp only[e,go_sem])<;>clear e|rw[q01 (by omega)]|refine sd ?_<;>try simp only[go_sem]|(first|refine cr (qle ..) ?_|refine cr (qua ..) ?_)<;>try simp only[go_sem]|fail)
 ·refine q25 (c163 w.door p hw.door hw.flows3 hp) [1,2] [] 22 2 (by simp only[go_sem];first|done|simp) (by simp only[go_sem];first|done|simp) (by simp) (by simp) (by rintro _ _ ⟨rfl,rfl⟩;simp) (by intro i hi;rcases(show i=0∨i=1 by omega) with rfl|rfl<;>simp only[go_sem]) ?_
  rintro _ _ ⟨rfl,rfl⟩
  simp only[go_sem]
  with_reducible repeat' (first|refine br ?_ ?_<;>intro h e<;>(try simp only[e,go_sem])<;>clear e|rw[q01 (by omega)]|refine sd ?_<;>try simp only[go_sem]|fail)
  refine q7k (w:={ w with door:=(dPass w.door p).1 }) (q:=(dPass w.door p).2) 0 102200 102201 3 (hdoor (.inl (by assumption))) ?_ ?_ ?_ ?_ ?_ ?_ ?_ ?_ ?_ (by decide)<;>simp only[go_sem]
 ·refine q25 (c163 w.door p hw.door hw.flows3 hp) [1,2] [] 22 2 (by simp only[go_sem];first|done|simp) (by simp only[go_sem];first|done|simp) (by simp) (by simp) (by rintro _ _ ⟨rfl,rfl⟩;simp) (by intro i hi;rcases(show i=0∨i=1 by omega) with rfl|rfl<;>simp only[go_sem]) ?_
  rintro _ _ ⟨rfl,rfl⟩
  simp only[go_sem]
  with_reducible repeat' (first|refine br ?_ ?_<;>intro h e<;>(try simp only[e,go_sem])<;>clear e|rw[q01 (by omega)]|refine sd ?_<;>try simp only[go_sem]|fail)
  refine q7k (w:={ w with door:=(dPass w.door p).1 }) (q:=(dPass w.door p).2) 0 102200 102201 3 (hdoor (.inr (by assumption))) ?_ ?_ ?_ ?_ ?_ ?_ ?_ ?_ ?_ (by decide)<;>simp only[go_sem]
 ·refine q25 (x164 w p hw hp) [0,1,2,3] [] 33 4 (by simp only[go_sem];first|done|simp) (by simp only[go_sem];first|done|simp) (by simp) (by simp) (by rintro _ _ ⟨rfl,rfl⟩;simp) (by intro i hi;rcases(show i=0∨i=1∨i=2∨i=3 by omega) with rfl|rfl|rfl|rfl<;>simp only[go_sem]) ?_
  rintro _ _ ⟨rfl,rfl⟩
  simp only[go_sem]
  with_reducible repeat' (first|refine br ?_ ?_<;>intro h e<;>(try simp only[e,go_sem])<;>clear e|rw[q01 (by omega)]|refine sd ?_<;>try simp only[go_sem]|fail)
  refine q7k (w:=(qas w p).1) (q:=(qas w p).2) 103300 103301 103302 103303 (hhost (by assumption) (by assumption)) ?_ ?_ ?_ ?_ ?_ ?_ ?_ ?_ ?_ (by decide)<;>simp only[go_sem]
theorem PkP.ofNet {X:List (E×E)} {w:M.World} (h:WX X w) {k:Nat} {p:Pk} (hp:w.nets[k]?=some p):PkP p:=(h.net p (List.mem_of_getElem? hp)).pk
def qjv (w:M.World) (k a:Int):M.World :=
 if q0g a 0 ((w.nets.length:Int) - 1) then
  if k=5 then send w w.nets[a.toNat]?
  else if k=4 then { w with nets:=w.nets.eraseIdx a.toNat }
  else match w.nets[a.toNat]? with
   | some p=>send (carry { w with nets:=w.nets.eraseIdx a.toNat } p).1 (carry { w with nets:=w.nets.eraseIdx a.toNat } p).2
   | none=>w
 else w
theorem qdx (w:M.World) (e:Ev) (h:e.kind=3∨e.kind=4∨e.kind=5):wDo w e=qjv w e.kind e.a:=by
 unfold wDo qjv
 rcases h with h|h|h<;>simp only[h]<;>simp<;>rfl
def que (sz c o n:Nat):Hs→Option (List (List V)×List Nat)
 | .arr _ s rows=>if s=sz then guardP (o+n≤rows.length) (some ((rows.drop o).take n,[c])) else none
 | _=>none
theorem qcv (h:Nat→Hs) (sz c o n):qjm h sz (.view c o n)=que sz c o n (h c):=by simp only[qjm,q4a,que];cases h c<;>rfl
theorem qpx {sz c o n ty rows} (hl:o+n≤rows.length):que sz c o n (.arr ty sz rows)=some ((rows.drop o).take n,[c]):=by
 simp[que,guardP,hl]
def ic59:IC:=sR [oP 2 (.box 33 (.t 0)),oP 3 (.box 67 (.t 1)),oP 4 (.alloc 33 [.nils,.nils,.nils,.nils])] (.seq (sR [fD 9 1 3,lD 10 1 9,fD 11 3 2,lD 12 1 11,oP 13 (.len (.t 12)),oP 14 (.bin .sub (.t 13) (cI 1)),oP 15 (.call 114 [.t 10,.c i0,.t 14]),oP 16 (.un .not (.t 15))] (cD 16 (sR [lA 17 4 2,nP (.sto 4 (.t 4) (.t 17))] .ret) .skip)) (sR [fD 18 3 2,lD 19 1 18,fD 20 1 3,lD 21 1 20,oP 22 (.iad 7 (.t 19) (.t 21)),lA 23 7 22,oP 5 (.alloc 65 [i0,i0,i0,i0,i0,i0,s0]),nP (.sto 7 (.t 5) (.t 23))] (.seq (sR [fD 24 0 3,lD 25 1 24,oP 26 (.bin .eql (.t 25) (cI 5))] (cD 26 (sR [lA 27 4 2,lA 28 7 5,oP 29 (.call 58 [.t 27,.t 28,cT]),nP (.sto 4 (.t 4) (.t 29))] .ret) .skip)) (.seq (.drw [0,0,2,0,8,30,63,0,128,0,512,1536,3968,8191,16383,32767] [(0,oP 30 (.bsl 65 7 [])),(1,fD 31 3 2),(2,lD 32 1 31),(3,fD 33 1 3),(4,lD 34 1 33),(5,oP 35 (.slv 7 (.t 32) none (some (.t 34)))),(6,oP 36 (.app 65 7 (.t 30) (.t 35))),(7,fD 37 3 2),(8,lD 38 1 37),(9,fD 39 1 3),(10,lD 40 1 39),(11,oP 41 (.bin .add (.t 40) (cI 1))),(12,oP 42 (.slv 7 (.t 38) (some (.t 41)) none)),(13,oP 43 (.app 65 7 (.t 36) (.t 42))),(14,fD 44 3 2),(15,nP (.sto 1 (.t 44) (.t 43)))]) (.seq (sR [fD 45 0 3,lD 46 1 45,oP 47 (.bin .eql (.t 46) (cI 4))] (cD 47 (sR [lA 48 4 2,nP (.sto 4 (.t 4) (.t 48))] .ret) .skip)) (sR [lA 50 4 2,lA 51 7 5,oP 52 (.call 117 [.t 50,.t 51]),mV 49 52,eX 53 49 0,eX 54 49 1,eX 55 49 2,oP 6 (.alloc 33 [.nils,.nils,.nils,.nils]),oP 7 (.alloc 65 [i0,i0,i0,i0,i0,i0,s0]),nP (.sto 4 (.t 6) (.t 53)),nP (.sto 7 (.t 7) (.t 54)),mV 8 55] (sR [lA 56 4 6,lA 57 7 7,mV 58 8,oP 59 (.call 58 [.t 56,.t 57,.t 58]),nP (.sto 4 (.t 4) (.t 59))] .ret)))))))
theorem dg59:Dg Tryz.prog 59 Tryz.f59 ic59 [(.cell 4 4 true)]:=⟨Tryz.func59,by kernel_rfl,by kernel_rfl⟩
theorem x59 {X:List (E×E)} (w:M.World) (e:Ev) (hw:WX X w):FnP Tryz.prog G 59 0 [.arr 69 10 (w.convs.map Conv.row),.arr 145 3 (w.door.map.map Pair.row),.arr 169 8 (w.door.flows.map Flw.row),.arr 65 7 (w.nets.map Pk.row)] [.agg [.own 0 w.convs.length,.own 1 w.door.map.length,.own 2 w.door.flows.length,.own 3 w.nets.length],.agg [.int .i64 e.kind,.int .i64 e.a,.int .i64 e.b,.int .i64 e.c,.int .i64 e.pkt.kind,.int .i64 e.pkt.frm.a,.int .i64 e.pkt.frm.p,.int .i64 e.pkt.to.a,.int .i64 e.pkt.to.p,.int .i64 e.pkt.at_,.str e.pkt.text]] (q6p (qjv w e.kind e.a)):=by
 refine mP dg59 Tryz.ntmps59 ⟨_,_,rfl,rfl⟩ ?_
 have hnl:=hw.nl
 simp only[ic59,go_sem]
 rw[q01 (by omega)]
 generalize hwi:q0g e.a 0 ((w.nets.length:Int) - 1)=b
 have hw2:b=true→0≤e.a∧e.a≤(w.nets.length:Int) - 1:=λh=>M.within_iff.1 (hwi.trans h)
 refine q0r (qc3 e.a 0 ((w.nets.length:Int) - 1)) rfl rfl ?_
 rw[hwi]
 cases b<;>simp only[go_sem]
 ·have hx:qjv w e.kind e.a=w:=by simp[qjv,hwi]
  rw[hx]
  exact q1e (c:=1004) 0 1 2 3 (by simp only[go_sem]) (by simp only[go_sem]) (by simp only[go_sem]) (by simp only[go_sem]) (by simp only[go_sem]) (by simp only[go_sem]) (by decide)
 have hw2:=hw2 rfl
 have hil:e.a.toNat<w.nets.length:=by omega
 have hg:w.nets.getD e.a.toNat default=w.nets[e.a.toNat]:=by simp[List.getD,hil]
 have hg2:w.nets[e.a.toNat]?=some w.nets[e.a.toNat]:=zE hil
 have hx5:e.kind=5→qjv w e.kind e.a=send w (some w.nets[e.a.toNat]):=λh=>by simp only[qjv,hwi,if_true];rw[if_pos h,hg2]
 have hx4:e.kind=4→qjv w e.kind e.a={ w with nets:=w.nets.eraseIdx e.a.toNat }:=λh=>by simp only[qjv,hwi,if_true];rw[if_neg (by omega),if_pos h]
 have hx3:e.kind≠5→e.kind≠4→qjv w e.kind e.a=send (carry { w with nets:=w.nets.eraseIdx e.a.toNat } w.nets[e.a.toNat]).1 (carry { w with nets:=w.nets.eraseIdx e.a.toNat } w.nets[e.a.toNat]).2:=λh h'=>by simp only[qjv,hwi,if_true];rw[if_neg h,if_neg h',hg2]
 have hpk:=PkP.ofNet hw hg2
 have hwe:=hw.erase e.a.toNat
 have herase:w.nets.eraseIdx e.a.toNat=w.nets.take e.a.toNat++w.nets.drop (e.a.toNat+1):=List.eraseIdx_eq_take_drop_succ _ _
 generalize hp:w.nets[e.a.toNat]=p at *
 have rv1:que 7 3 0 (e.a.toNat - 0) (.arr 65 7 (w.nets.map Pk.row))=some ((w.nets.take e.a.toNat).map Pk.row,[3]):=by
  rw[qpx (by simp;omega)];simp[List.map_take]
 have rv2:que 7 3 (e.a+1).toNat (w.nets.length - (e.a+1).toNat) (.arr 65 7 (w.nets.map Pk.row))=some ((w.nets.drop (e.a.toNat+1)).map Pk.row,[3]):=by
  rw[qpx (by simp;omega)]
  have:(e.a+1).toNat=e.a.toNat+1:=by omega
  rw[this,←List.map_drop,←List.map_take,List.take_of_length_le (by simp)]
 with_reducible repeat' (first|refine br ?_ ?_<;>intro h e<;>(try simp only[e,go_sem,q00 hil,hg,hp,qcv,rv1,rv2,List.length_take,List.length_drop])<;>clear e|rw[q01 (by omega)]|refine sd ?_<;>try simp only[go_sem,q00 hil,hg,hp,qcv,rv1,rv2,List.length_take,List.length_drop]|fail)
 ·have c5:=c58 w p true (by omega)
  simp only[cond_true] at c5
  rw[hx5 h]
  refine q25 c5 [0,1,2,3] [] 29 4 (by simp only[go_sem];first|done|simp) (by simp only[go_sem];first|done|simp) (by simp) (by simp) (by rintro _ _ ⟨rfl,rfl⟩;simp) (by intro i hi;rcases(show i=0∨i=1∨i=2∨i=3 by omega) with rfl|rfl|rfl|rfl<;>simp only[go_sem]) ?_
  rintro _ _ ⟨rfl,rfl⟩
  simp only[go_sem]
  with_reducible repeat' (first|refine br ?_ ?_<;>intro h e<;>(try simp only[e,go_sem])<;>clear e|rw[q01 (by omega)]|refine sd ?_<;>try simp only[go_sem]|fail)
  exact q1e (c:=1004) 102900 102901 102902 102903 (by simp only[go_sem]) (by simp only[go_sem]) (by simp only[go_sem]) (by simp only[go_sem]) (by simp only[go_sem]) (by simp only[go_sem]) (by decide)
 ·have hlen:min e.a.toNat w.nets.length+(w.nets.length - (e.a.toNat+1))=(w.nets.eraseIdx e.a.toNat).length:=by rw[herase];simp
  have hrows:(w.nets.take e.a.toNat).map Pk.row++(w.nets.drop (e.a.toNat+1)).map Pk.row=(w.nets.eraseIdx e.a.toNat).map Pk.row:=by rw[herase,List.map_append]
  simp only[hlen,hrows]
  rw[hx4 h]
  exact q1e (c:=1004) 0 1 2 1043 (by simp only[go_sem]) (by simp only[go_sem]) (by simp only[go_sem]) (by simp only[go_sem]) (by simp only[go_sem]) (by simp only[go_sem]) (by decide)
 ·have hlen:min e.a.toNat w.nets.length+(w.nets.length - (e.a.toNat+1))=(w.nets.eraseIdx e.a.toNat).length:=by rw[herase];simp
  have hrows:(w.nets.take e.a.toNat).map Pk.row++(w.nets.drop (e.a.toNat+1)).map Pk.row=(w.nets.eraseIdx e.a.toNat).map Pk.row:=by rw[herase,List.map_append]
  simp only[hlen,hrows]
  rw[hx3 (by assumption) (by assumption)]
  have hk:=(q9e hwe ⟨hpk,λhin=>(hw.net p (List.mem_of_getElem? hg2)).c hin⟩).1
  refine q25 (x117 { w with nets:=w.nets.eraseIdx e.a.toNat } p hwe hpk) [0,1,2,1043] [] 52 4 (by simp only[go_sem];first|done|simp) (by simp only[go_sem];first|done|simp) (by simp) (by simp) (by rintro _ _ ⟨rfl,rfl⟩;simp) (by intro i hi;rcases(show i=0∨i=1∨i=2∨i=3 by omega) with rfl|rfl|rfl|rfl<;>simp only[go_sem]) ?_
  rintro _ _ ⟨rfl,rfl⟩
  simp only[go_sem]
  with_reducible repeat' (first|refine br ?_ ?_<;>intro h e<;>(try simp only[e,go_sem])<;>clear e|rw[q01 (by omega)]|refine sd ?_<;>try simp only[go_sem]|fail)
  generalize carry { w with nets:=w.nets.eraseIdx e.a.toNat } p=r at *
  obtain⟨v,o⟩:=r
  simp only at hk
  have hvn:=hk.nl
  simp only[go_sem]
  with_reducible repeat' (first|refine br ?_ ?_<;>intro h e<;>(try simp only[e,go_sem])<;>clear e|rw[q01 (by omega)]|refine sd ?_<;>try simp only[go_sem]|fail)
  refine q25 (c58 v (o.getD .zero) o.isSome (by omega)) [105200,105201,105202,105203] [] 59 4 (by simp only[go_sem];first|done|simp) (by simp only[go_sem];first|done|simp) (by simp) (by simp) (by rintro _ _ ⟨rfl,rfl⟩;simp) (by intro i hi;rcases(show i=0∨i=1∨i=2∨i=3 by omega) with rfl|rfl|rfl|rfl<;>simp only[go_sem]) ?_
  rw[qgn]
  rintro _ _ ⟨rfl,rfl⟩
  simp only[go_sem]
  with_reducible repeat' (first|refine br ?_ ?_<;>intro h e<;>(try simp only[e,go_sem])<;>clear e|rw[q01 (by omega)]|refine sd ?_<;>try simp only[go_sem]|fail)
  exact q1e (c:=1004) 105900 105901 105902 105903 (by simp only[go_sem]) (by simp only[go_sem]) (by simp only[go_sem]) (by simp only[go_sem]) (by simp only[go_sem]) (by simp only[go_sem]) (by decide)
def ic24:IC:=sR [oP 2 (.box 33 (.t 0)),oP 3 (.box 67 (.t 1)),oP 4 (.alloc 33 [.nils,.nils,.nils,.nils])] (.seq (sR [fD 7 0 3,lD 8 1 7] (.block 0 (.seq (sR [oP 10 (.bin .eql (.t 8) (cI 1)),mV 9 10] (cD 9 .skip (.reg [oP 11 (.bin .eql (.t 8) (cI 2)),mV 9 11]))) (cD 9 (sR [lA 13 4 2,lA 14 11 3,oP 15 (.call 57 [.t 13,.t 14]),mV 12 15,eX 16 12 0,eX 17 12 1,oP 5 (.alloc 65 [i0,i0,i0,i0,i0,i0,s0]),nP (.sto 7 (.t 5) (.t 16)),mV 6 17] (sR [lA 18 4 2,lA 19 7 5,mV 20 6,oP 21 (.call 58 [.t 18,.t 19,.t 20]),nP (.sto 4 (.t 4) (.t 21))] .ret)) (.seq (sR [oP 23 (.bin .eql (.t 8) (cI 3)),mV 22 23] (cD 22 .skip (sR [oP 24 (.bin .eql (.t 8) (cI 4)),mV 22 24] (cD 22 .skip (.reg [oP 25 (.bin .eql (.t 8) (cI 5)),mV 22 25]))))) (cD 22 (sR [lA 26 4 2,lA 27 11 3,oP 28 (.call 59 [.t 26,.t 27]),nP (.sto 4 (.t 4) (.t 28))] .ret) (sR [oP 30 (.bin .eql (.t 8) (cI 6)),mV 29 30] (cD 29 (.seq (.drw [0,0,2,0,0,16,56,127,255] [(0,lA 31 4 2),(1,fD 32 4 3),(2,lA 33 7 32),(3,lA 34 4 2),(4,fD 35 4 3),(5,lA 36 7 35),(6,oP 37 (.call 60 [.t 34,.t 36])),(7,oP 38 (.call 58 [.t 31,.t 33,.t 37])),(8,nP (.sto 4 (.t 4) (.t 38)))]) .ret) .skip)))))))) (sR [lA 39 4 2,nP (.sto 4 (.t 4) (.t 39))] .ret))
theorem dg24:Dg Tryz.prog 24 Tryz.f24 ic24 [(.cell 4 4 true)]:=⟨Tryz.func24,by kernel_rfl,by kernel_rfl⟩
theorem x24 {X:List (E×E)} (w:M.World) (e:Ev) (hw:WX X w) (ht:e.pkt.text.length≤2000000):FnP Tryz.prog G 24 0 [.arr 69 10 (w.convs.map Conv.row),.arr 145 3 (w.door.map.map Pair.row),.arr 169 8 (w.door.flows.map Flw.row),.arr 65 7 (w.nets.map Pk.row)] [.agg [.own 0 w.convs.length,.own 1 w.door.map.length,.own 2 w.door.flows.length,.own 3 w.nets.length],.agg [.int .i64 e.kind,.int .i64 e.a,.int .i64 e.b,.int .i64 e.c,.int .i64 e.pkt.kind,.int .i64 e.pkt.frm.a,.int .i64 e.pkt.frm.p,.int .i64 e.pkt.to.a,.int .i64 e.pkt.to.p,.int .i64 e.pkt.at_,.str e.pkt.text]] (q6p (wDo w e)):=by
 refine mP dg24 Tryz.ntmps24 ⟨_,_,rfl,rfl⟩ ?_
 have hnl:=hw.nl
 have hcl:=hw.cl
 have hml:=(q0d (q07.1 hw.door).1).2
 have hB:∀c∈w.convs,c.up.length≤2000000∧c.down.length≤2000000:=λc hc=>by
  have hb:=q20 (hw.cv c hc)
  have h1:=hb.up
  have h2:=hb.down
  omega
 simp only[ic24,go_sem]
 with_reducible repeat' (first|refine br ?_ ?_<;>intro h e<;>(try simp only[e,go_sem])<;>clear e|rw[q01 (by omega)]|refine sd ?_<;>try simp only[go_sem]|fail)
 ·refine q2p (c57 w e (by omega) (by omega) hB) [0,1,2,3] false (by simp only[go_sem];first|done|simp[E.row,Pc.row,Pair.row,Part.row,Flw.row,Pk.row,Conv.row]) (by simp only[List.mem_cons,List.not_mem_nil,or_false];rintro c (rfl|rfl|rfl|rfl)<;>simp only[go_sem]) rfl (.inr rfl) ?_
  have hx:wDo w e=send w (sayW w (decide (e.kind=1)) e.a e.b e.c):=by simp[wDo,h]
  rw[hx]
  generalize sayW w (decide (e.kind=1)) e.a e.b e.c=o
  simp only[go_sem]
  with_reducible repeat' (first|refine br ?_ ?_<;>intro h e<;>(try simp only[e,go_sem])<;>clear e|rw[q01 (by omega)]|refine sd ?_<;>try simp only[go_sem]|fail)
  refine q25 (c58 w (o.getD .zero) o.isSome (by omega)) [0,1,2,3] [] 21 4 (by simp only[go_sem];first|done|simp) (by simp only[go_sem];first|done|simp) (by simp) (by simp) (by rintro _ _ ⟨rfl,rfl⟩;simp) (by intro i hi;rcases(show i=0∨i=1∨i=2∨i=3 by omega) with rfl|rfl|rfl|rfl<;>simp only[go_sem]) ?_
  rw[qgn]
  rintro _ _ ⟨rfl,rfl⟩
  simp only[go_sem]
  with_reducible repeat' (first|refine br ?_ ?_<;>intro h e<;>(try simp only[e,go_sem])<;>clear e|rw[q01 (by omega)]|refine sd ?_<;>try simp only[go_sem]|fail)
  exact q1e (c:=1004) 102100 102101 102102 102103 (by simp only[go_sem]) (by simp only[go_sem]) (by simp only[go_sem]) (by simp only[go_sem]) (by simp only[go_sem]) (by simp only[go_sem]) (by decide)
 ·refine q2p (c57 w e (by omega) (by omega) hB) [0,1,2,3] false (by simp only[go_sem];first|done|simp[E.row,Pc.row,Pair.row,Part.row,Flw.row,Pk.row,Conv.row]) (by simp only[List.mem_cons,List.not_mem_nil,or_false];rintro c (rfl|rfl|rfl|rfl)<;>simp only[go_sem]) rfl (.inr rfl) ?_
  have hx:wDo w e=send w (sayW w (decide (e.kind=1)) e.a e.b e.c):=by simp[wDo,h]
  rw[hx]
  generalize sayW w (decide (e.kind=1)) e.a e.b e.c=o
  simp only[go_sem]
  with_reducible repeat' (first|refine br ?_ ?_<;>intro h e<;>(try simp only[e,go_sem])<;>clear e|rw[q01 (by omega)]|refine sd ?_<;>try simp only[go_sem]|fail)
  refine q25 (c58 w (o.getD .zero) o.isSome (by omega)) [0,1,2,3] [] 21 4 (by simp only[go_sem];first|done|simp) (by simp only[go_sem];first|done|simp) (by simp) (by simp) (by rintro _ _ ⟨rfl,rfl⟩;simp) (by intro i hi;rcases(show i=0∨i=1∨i=2∨i=3 by omega) with rfl|rfl|rfl|rfl<;>simp only[go_sem]) ?_
  rw[qgn]
  rintro _ _ ⟨rfl,rfl⟩
  simp only[go_sem]
  with_reducible repeat' (first|refine br ?_ ?_<;>intro h e<;>(try simp only[e,go_sem])<;>clear e|rw[q01 (by omega)]|refine sd ?_<;>try simp only[go_sem]|fail)
  exact q1e (c:=1004) 102100 102101 102102 102103 (by simp only[go_sem]) (by simp only[go_sem]) (by simp only[go_sem]) (by simp only[go_sem]) (by simp only[go_sem]) (by simp only[go_sem]) (by decide)
 ·rw[qdx w e (.inl h)]
  refine q25 (x59 w e hw) [0,1,2,3] [] 28 4 (by simp only[go_sem];first|done|simp) (by simp only[go_sem];first|done|simp) (by simp) (by simp) (by rintro _ _ ⟨rfl,rfl⟩;simp) (by intro i hi;rcases(show i=0∨i=1∨i=2∨i=3 by omega) with rfl|rfl|rfl|rfl<;>simp only[go_sem]) ?_
  rintro _ _ ⟨rfl,rfl⟩
  simp only[go_sem]
  with_reducible repeat' (first|refine br ?_ ?_<;>intro h e<;>(try simp only[e,go_sem])<;>clear e|rw[q01 (by omega)]|refine sd ?_<;>try simp only[go_sem]|fail)
  exact q1e (c:=1004) 102800 102801 102802 102803 (by simp only[go_sem]) (by simp only[go_sem]) (by simp only[go_sem]) (by simp only[go_sem]) (by simp only[go_sem]) (by simp only[go_sem]) (by decide)
 ·rw[qdx w e (.inr (.inl h))]
  refine q25 (x59 w e hw) [0,1,2,3] [] 28 4 (by simp only[go_sem];first|done|simp) (by simp only[go_sem];first|done|simp) (by simp) (by simp) (by rintro _ _ ⟨rfl,rfl⟩;simp) (by intro i hi;rcases(show i=0∨i=1∨i=2∨i=3 by omega) with rfl|rfl|rfl|rfl<;>simp only[go_sem]) ?_
  rintro _ _ ⟨rfl,rfl⟩
  simp only[go_sem]
  with_reducible repeat' (first|refine br ?_ ?_<;>intro h e<;>(try simp only[e,go_sem])<;>clear e|rw[q01 (by omega)]|refine sd ?_<;>try simp only[go_sem]|fail)
  exact q1e (c:=1004) 102800 102801 102802 102803 (by simp only[go_sem]) (by simp only[go_sem]) (by simp only[go_sem]) (by simp only[go_sem]) (by simp only[go_sem]) (by simp only[go_sem]) (by decide)
 ·rw[qdx w e (.inr (.inr h))]
  refine q25 (x59 w e hw) [0,1,2,3] [] 28 4 (by simp only[go_sem];first|done|simp) (by simp only[go_sem];first|done|simp) (by simp) (by simp) (by rintro _ _ ⟨rfl,rfl⟩;simp) (by intro i hi;rcases(show i=0∨i=1∨i=2∨i=3 by omega) with rfl|rfl|rfl|rfl<;>simp only[go_sem]) ?_
  rintro _ _ ⟨rfl,rfl⟩
  simp only[go_sem]
  with_reducible repeat' (first|refine br ?_ ?_<;>intro h e<;>(try simp only[e,go_sem])<;>clear e|rw[q01 (by omega)]|refine sd ?_<;>try simp only[go_sem]|fail)
  exact q1e (c:=1004) 102800 102801 102802 102803 (by simp only[go_sem]) (by simp only[go_sem]) (by simp only[go_sem]) (by simp only[go_sem]) (by simp only[go_sem]) (by simp only[go_sem]) (by decide)
 ·have hx:wDo w e=send w (bif stranger w e.pkt then some e.pkt else none):=by
   simp only[wDo,h]
   cases stranger w e.pkt<;>simp[send]
  rw[hx]
  refine q2p (c60 w e.pkt (by omega) ht) [0,1,2,3] false (by simp only[go_sem];first|done|simp[E.row,Pc.row,Pair.row,Part.row,Flw.row,Pk.row,Conv.row]) (by simp only[List.mem_cons,List.not_mem_nil,or_false];rintro c (rfl|rfl|rfl|rfl)<;>simp only[go_sem]) rfl (.inr rfl) ?_
  generalize stranger w e.pkt=o
  simp only[go_sem]
  with_reducible repeat' (first|refine br ?_ ?_<;>intro h e<;>(try simp only[e,go_sem])<;>clear e|rw[q01 (by omega)]|refine sd ?_<;>try simp only[go_sem]|fail)
  refine q25 (c58 w e.pkt o (by omega)) [0,1,2,3] [] 38 4 (by simp only[go_sem];first|done|simp) (by simp only[go_sem];first|done|simp) (by simp) (by simp) (by rintro _ _ ⟨rfl,rfl⟩;simp) (by intro i hi;rcases(show i=0∨i=1∨i=2∨i=3 by omega) with rfl|rfl|rfl|rfl<;>simp only[go_sem]) ?_
  rintro _ _ ⟨rfl,rfl⟩
  simp only[go_sem]
  with_reducible repeat' (first|refine br ?_ ?_<;>intro h e<;>(try simp only[e,go_sem])<;>clear e|rw[q01 (by omega)]|refine sd ?_<;>try simp only[go_sem]|fail)
  exact q1e (c:=1004) 103800 103801 103802 103803 (by simp only[go_sem]) (by simp only[go_sem]) (by simp only[go_sem]) (by simp only[go_sem]) (by simp only[go_sem]) (by simp only[go_sem]) (by decide)
 ·have hx:wDo w e=w:=by simp only[wDo];simp[*]
  rw[hx]
  exact q1e (c:=1004) 0 1 2 3 (by simp only[go_sem]) (by simp only[go_sem]) (by simp only[go_sem]) (by simp only[go_sem]) (by simp only[go_sem]) (by simp only[go_sem]) (by decide)
theorem c24 (w:M.World) (e:Ev) (hw:WI w) (ht:e.pkt.text.length≤2000000):FnP Tryz.prog G 24 0 [.arr 69 10 (w.convs.map Conv.row),.arr 145 3 (w.door.map.map Pair.row),.arr 169 8 (w.door.flows.map Flw.row),.arr 65 7 (w.nets.map Pk.row)] [.agg [.own 0 w.convs.length,.own 1 w.door.map.length,.own 2 w.door.flows.length,.own 3 w.nets.length],.agg [.int .i64 e.kind,.int .i64 e.a,.int .i64 e.b,.int .i64 e.c,.int .i64 e.pkt.kind,.int .i64 e.pkt.frm.a,.int .i64 e.pkt.frm.p,.int .i64 e.pkt.to.a,.int .i64 e.pkt.to.p,.int .i64 e.pkt.at_,.str e.pkt.text]] (q6p (wDo w e)) :=
 x24 w e hw.x ht
def ic56:IC:=sR [oP 2 (.mv cF)] (.seq (sR [oP 3 (.mv (.c i0))] (.block 0 (.loop (.seq (sR [mV 5 3,mV 6 0,oP 7 (.len (.t 6)),bN 8 .lss 5 7] (cD 8 .skip (.exit 0))) (.seq (.block 1 (.seq (sR [oP 4 (.mv (.c i0))] (.block 2 (.loop (.seq (sR [mV 11 4,mV 12 3,bN 13 .lss 11 12] (cD 13 .skip (.exit 2))) (.seq (.block 3 (.seq (.drw [0,0,3,7,15,0,0,96,224,480,1023,2047,4095,4095,16383,32767,65535,4095,4095,397311,921599,1970175,4194303,8388607] [(0,mV 16 0),(1,mV 17 4),(2,oP 18 (.iad 10 (.t 16) (.t 17))),(3,fD 19 0 18),(4,lA 20 2 19),(5,mV 21 0),(6,mV 22 3),(7,oP 23 (.iad 10 (.t 21) (.t 22))),(8,fD 24 0 23),(9,lA 25 2 24),(10,oP 26 (.eqs false [.i,.i] (.t 20) (.t 25))),(11,mV 27 26),(12,gF 28 27 (.mv (.t 0))),(13,gF 29 27 (.mv (.t 4))),(14,gF 30 27 (.iad 10 (.t 28) (.t 29))),(15,gF 31 27 (.fad 2 (.t 30))),(16,gF 32 27 (.ld 2 true (.t 31))),(17,gF 33 27 (.mv (.t 0))),(18,gF 34 27 (.mv (.t 3))),(19,gF 35 27 (.iad 10 (.t 33) (.t 34))),(20,gF 36 27 (.fad 2 (.t 35))),(21,gF 37 27 (.ld 2 true (.t 36))),(22,gF 38 27 (.eqs false [.i,.i] (.t 32) (.t 37))),(23,pT 39 27 38)]) (cD 39 (sR [oP 2 (.mv cF)] .ret) .skip))) (.reg [mV 14 4,oP 15 (.bin .add (.t 14) (cI 1)),mV 4 15])))))) (sR [mV 40 0,mV 41 3,oP 42 (.iad 10 (.t 40) (.t 41)),lA 43 10 42,oP 44 (.call 113 [.t 43]),oP 45 (.un .not (.t 44))] (cD 45 (sR [oP 2 (.mv cF)] .ret) .skip)))) (.reg [mV 9 3,oP 10 (.bin .add (.t 9) (cI 1)),mV 3 10])))))) (sR [mV 46 0,oP 47 (.len (.t 46)),oP 48 (.bin .leq (.t 47) (cI 2)),mV 2 48] .ret))
theorem dg56:Dg Tryz.prog 56 Tryz.f56 ic56 [(.t 2)]:=⟨Tryz.func56,by kernel_rfl,by kernel_rfl⟩
theorem c56 (cs:List Conv) (hl:cs.length≤2000000) (hB:∀c∈cs,(c.up.length≤2000000∧c.down.length≤2000000)∧c.upGot.length≤2000000∧c.downGot.length≤2000000):FnR Tryz.prog G 56 [.sl 10 (cs.map Conv.row)] (.bool (q17 cs)):=by
 refine mF dg56 Tryz.ntmps56 ?_
 simp only[ic56,go_sem]
 refine q0v (λi:Nat=>⟨q0i [(0,.sl 10 (cs.map Conv.row)),(3,.int .i64 (i:Int))],q0c []⟩) (λi=>cs.length - i) (λi=>i≤cs.length∧∀j,j<i→q9d cs j=true) 0 (leQ []) ⟨Nat.zero_le _,by omega⟩ ?_
 intro i ⟨hi,ha⟩
 simp only[go_sem]
 by_cases h:(i:Int)<cs.length
 ·have hil:i<cs.length:=by omega
  have hg:cs.getD i default=cs[i]:=by simp[List.getD,hil]
  have hok:=q6m hil
  obtain⟨⟨b1,b2⟩,b3,b4⟩:=hB _ (List.getElem_mem hil)
  simp only[eq_true h,go_sem]
  refine q0v (λk:Nat=>⟨q0i [(0,.sl 10 (cs.map Conv.row)),(3,.int .i64 (i:Int)),(4,.int .i64 (k:Int))],q0c []⟩) (λk=>i - k) (λk=>k≤i∧(cs.take k).any (λo=>decide (o.ins=cs[i].ins)||decide (o.out=cs[i].out))=false) 0 (leQ []) ⟨Nat.zero_le _,by simp⟩ ?_
  intro k ⟨hk,hka⟩
  simp only[go_sem]
  by_cases h2:(k:Int)<i
  ·have hkl:k<cs.length:=by omega
   have hgk:cs.getD k default=cs[k]:=by simp[List.getD,hkl]
   simp only[eq_true h2,go_sem]
   have bad:(cs[k].ins=cs[i].ins∨cs[k].out=cs[i].out)→q17 cs=false:=λhb=>q8d hil (by
    have:(cs.take i).any (λo=>decide (o.ins=cs[i].ins)||decide (o.out=cs[i].out))=true:=List.any_eq_true.2 ⟨cs[k],List.mem_iff_getElem?.2 ⟨k,by rw[List.getElem?_take,if_pos (by omega)];exact zE hkl⟩,by simpa using hb⟩
    rw[hok,this];simp)
   with_reducible repeat' (first|refine br ?_ ?_<;>intro h e<;>(try simp only[e,go_sem,hg,hgk,E.ext_iff'])<;>clear e|rw[q01 (by omega)]|refine sd ?_<;>try simp only[go_sem,hg,hgk,E.ext_iff']|fail)
   ·exact bad (.inl (by assumption))
   ·exact bad (.inr (by assumption))
   ·refine⟨k+1,by omega,⟨by omega, ?_⟩,(leQ [])⟩
    rw[List.take_add_one,zE hkl]
    simp only[Option.toList_some,List.any_append,hka,List.any_cons,List.any_nil,Bool.or_false,Bool.false_or,Bool.or_eq_false_iff,decide_eq_false_iff_not]
    exact⟨by assumption,by assumption⟩
  ·simp only[eq_false h2,go_sem]
   obtain rfl:k=i:=by omega
   have c1:=c113 cs[k] b1 b2 b3 b4
   with_reducible repeat' (first|refine br ?_ ?_<;>intro h e<;>(try simp only[e,go_sem,hg])<;>clear e|rw[q01 (by omega)]|refine sd ?_<;>try simp only[go_sem,hg]|(first|refine cr (c1 ..) ?_)<;>try simp only[go_sem,hg]|fail)
   ·refine⟨k+1,by omega,⟨by omega,λj hj=>?_⟩,(leQ [])⟩
    rcases Nat.lt_or_ge j k with hjk|hjk
    ·exact ha j hjk
    ·obtain rfl:j=k:=by omega
     rw[hok,hka];simp[*]
   ·exact q8d hil (by rw[hok];simp[*])
 ·simp only[eq_false h,go_sem]
  have:i=cs.length:=by omega
  subst this
  with_reducible repeat' (first|refine br ?_ ?_<;>intro h e<;>(try simp only[e,go_sem])<;>clear e|rw[q01 (by omega)]|refine sd ?_<;>try simp only[go_sem]|fail)
  have h1:=q29 (cs:=cs)
  by_cases h2:cs.length≤2
  ·rw[h1.2 ⟨h2,ha⟩];exact(decide_eq_true (by omega)).symm
  ·have:q17 cs=false:=by
    cases ht:q17 cs with
    | false=>rfl
    | true=>exact absurd (h1.1 ht).1 h2
   rw[this];exact(decide_eq_false (by omega)).symm
def newA (o:Option M.World) (r:V) (out:List Hs):Prop:=(∃w,o=some w∧r=.tup [.agg [.own 0 w.convs.length,.own 1 w.door.map.length,.own 2 w.door.flows.length,.own 3 w.nets.length],.bool true]∧out=[.arr 69 10 (w.convs.map Conv.row),.arr 145 3 (w.door.map.map Pair.row),.arr 169 8 (w.door.flows.map Flw.row),.arr 65 7 (w.nets.map Pk.row)])∨(o=none∧r=.tup [.agg [.nils,.nils,.nils,.nils],.bool false]∧out=[])
theorem qt0 (o:Option M.World):∃r out,newA o r out:=by
 cases o with
 | none=>exact⟨_,_,.inr ⟨rfl,rfl,rfl⟩⟩
 | some w=>exact⟨_,_,.inl ⟨w,rfl,rfl,rfl⟩⟩
theorem qbm (c:Conv) (cs:List Conv):q16 (c::cs)=match q1o c.ins c.out c.up c.down with
 | some n=>(q16 cs).map (n::·)
 | none=>none:=by
 simp only[q16]
 cases q1o c.ins c.out c.up c.down<;>cases q16 cs<;>rfl
theorem qhk {i o:E} {up down:B} {n:Conv} (h:q1o i o up down=some n):n=⟨i,o,up,down,0,0,[],[]⟩:=by
 unfold q1o at h
 split at h<;>cases h
 rfl
theorem qpu {pin:Nat} {o:Option M.World} {l:List (Nat×V)} {mm:List (Nat×Hs)} {d c e:Nat} (ho:o=none) (h2:q0i l d=.pv c 0) (h3:q0i l e=.bool false) (m2:q0c mm c=.var 33 [.nils,.nils,.nils,.nils]) :
 q59 [.cell d 4 true,.t e] 0 (newA o) .ret ⟨q0i l,q0c mm⟩:=by
 refine q1m (.tup [.agg [.nils,.nils,.nils,.nils],.bool false]) [] [] ?_ (.inr ⟨ho,rfl,rfl⟩) (by simp only[go_sem]) (by simp[q1c]) (by simp only[go_sem])
 simp only[go_sem,h2,h3,m2]
theorem qrg {o:Option M.World} {w:M.World} {l:List (Nat×V)} {mm:List (Nat×Hs)} {d c e:Nat} (n0 n1 n2 n3:Nat) (ho:o=some w) (h4:q0i l d=.pv c 0) (h5:q0i l e=.bool true)
 (m4:q0c mm c=.var 33 [.own n0 w.convs.length,.own n1 w.door.map.length,.own n2 w.door.flows.length,.own n3 w.nets.length])
 (m0:q0c mm n0=.arr 69 10 (w.convs.map Conv.row)) (m1:q0c mm n1=.arr 145 3 (w.door.map.map Pair.row)) (m2:q0c mm n2=.arr 169 8 (w.door.flows.map Flw.row)) (m3:q0c mm n3=.arr 65 7 (w.nets.map Pk.row))
 (hne:[n0,n1,n2,n3].Nodup):q59 [.cell d 4 true,.t e] 0 (newA o) .ret ⟨q0i l,q0c mm⟩:=by
 refine q1m (.tup [.agg [.own 0 w.convs.length,.own 1 w.door.map.length,.own 2 w.door.flows.length,.own 3 w.nets.length],.bool true]) [.arr 69 10 (w.convs.map Conv.row),.arr 145 3 (w.door.map.map Pair.row),.arr 169 8 (w.door.flows.map Flw.row),.arr 65 7 (w.nets.map Pk.row)] [(0,n0),(1,n1),(2,n2),(3,n3)] ?_ (.inl ⟨w,ho,rfl,rfl⟩) ?_ (by simpa[q1c,q0o] using hne) (by simp only[go_sem])
 ·simp only[go_sem,h4,h5,m4]
 ·simp only[go_sem,m0,m1,m2,m3]
def ic23:IC:=sR [oP 2 (.alloc 33 [.nils,.nils,.nils,.nils]),oP 3 (.mv cF)] (sR [oP 8 (.bsl 69 10 []),oP 9 (.bsl 145 3 []),oP 10 (.bsl 169 8 []),oP 11 (.build [.nils,.nils] [(0,(1,.t 9)),(1,(1,.t 10))]),oP 12 (.bsl 65 7 []),oP 13 (.build [.nils,.nils,.nils,.nils] [(0,(1,.t 8)),(1,(2,.t 11)),(3,(1,.t 12))]),oP 4 (.alloc 33 [.nils,.nils,.nils,.nils]),nP (.sto 4 (.t 4) (.t 13))] (.seq (sR [oP 5 (.mv (.c i0))] (.block 0 (.loop (.seq (sR [mV 14 5,mV 15 0,oP 16 (.len (.t 15)),bN 17 .lss 14 16] (cD 17 .skip (.exit 0))) (.seq (.block 1 (.seq (.drw [0,0,3,7,15,0,0,96,224,480,0,0,3072,7168,15360,0,0,98304,229376,491520,1048575,2097151,4194303,4194303,0,25165823,67108863] [(0,mV 21 0),(1,mV 22 5),(2,oP 23 (.iad 10 (.t 21) (.t 22))),(3,fD 24 0 23),(4,lA 25 2 24),(5,mV 26 0),(6,mV 27 5),(7,oP 28 (.iad 10 (.t 26) (.t 27))),(8,fD 29 2 28),(9,lA 30 2 29),(10,mV 31 0),(11,mV 32 5),(12,oP 33 (.iad 10 (.t 31) (.t 32))),(13,fD 34 4 33),(14,lD 35 1 34),(15,mV 36 0),(16,mV 37 5),(17,oP 38 (.iad 10 (.t 36) (.t 37))),(18,fD 39 5 38),(19,lD 40 1 39),(20,oP 41 (.call 55 [.t 25,.t 30,.t 35,.t 40])),(21,mV 20 41),(22,eX 42 20 0),(23,eX 43 20 1),(24,oP 6 (.alloc 69 [i0,i0,i0,i0,s0,s0,i0,i0,s0,s0])),(25,nP (.sto 10 (.t 6) (.t 42))),(26,mV 7 43)]) (.seq (sR [mV 44 7,oP 45 (.un .not (.t 44))] (cD 45 (sR [oP 46 (.build [.nils,.nils,.nils,.nils] []),nP (.sto 4 (.t 2) (.t 46)),oP 3 (.mv cF)] .ret) .skip)) (.reg [fD 47 0 4,lD 48 1 47,lA 49 10 6,oP 50 (.bsl 69 10 [.t 49]),oP 51 (.app 69 10 (.t 48) (.t 50)),fD 52 0 4,nP (.sto 1 (.t 52) (.t 51))])))) (.reg [mV 18 5,oP 19 (.bin .add (.t 18) (cI 1)),mV 5 19])))))) (.seq (sR [fD 53 0 4,lD 54 1 53,oP 55 (.call 56 [.t 54]),oP 56 (.un .not (.t 55))] (cD 56 (sR [oP 57 (.build [.nils,.nils,.nils,.nils] []),nP (.sto 4 (.t 2) (.t 57)),oP 3 (.mv cF)] .ret) .skip)) (sR [lA 58 4 4,nP (.sto 4 (.t 2) (.t 58)),oP 3 (.mv cT)] .ret))))
theorem dg23:Dg Tryz.prog 23 Tryz.f23 ic23 [(.cell 2 4 true),(.t 3)]:=⟨Tryz.func23,by kernel_rfl,by kernel_rfl⟩
theorem c23 (cs:List Conv) (hl:cs.length≤1048576) (hB:∀c∈cs,c.up.length≤2000000∧c.down.length≤2000000):FnP Tryz.prog G 23 0 [] [.sl 10 (cs.map Conv.row)] (newA (q0z cs)):=by
 refine mP dg23 Tryz.ntmps23 (qt0 _) ?_
 simp only[ic23,go_sem]
 refine q0v (λa:Nat×List Conv=>⟨q0i [(0,.sl 10 (cs.map Conv.row)),(2,.pv 1002 0),(4,.pv 1004 0),(5,.int .i64 (a.1:Int))],q0c [(1002,.var 33 [.nils,.nils,.nils,.nils]),(1004,.var 33 [.own 1008 a.2.length,.own 1009 0,.own 1010 0,.own 1012 0]),(1008,.arr 69 10 (a.2.map Conv.row)),(1009,.arr 145 3 []),(1010,.arr 169 8 []),(1012,.arr 65 7 [])]⟩)
  (λa=>cs.length - a.1) (λa=>a.1≤cs.length∧a.2.length=a.1∧q16 cs=(q16 (cs.drop a.1)).map (a.2++·)∧∀c∈a.2,(c.up.length≤2000000∧c.down.length≤2000000)∧c.upGot.length≤2000000∧c.downGot.length≤2000000) (0,[]) (leQ []) ⟨Nat.zero_le _,rfl,by simp,by simp⟩ ?_
 intro⟨i,ns⟩ ⟨hi,hnl,hnc,hnB⟩
 simp only at hi hnl hnc hnB
 simp only[go_sem]
 by_cases h:(i:Int)<cs.length
 ·have hil:i<cs.length:=by omega
  have hg:cs.getD i default=cs[i]:=by simp[List.getD,hil]
  obtain⟨b1,b2⟩:=hB _ (List.getElem_mem hil)
  rw[List.drop_eq_getElem_cons hil,qbm] at hnc
  have c1:=c55 cs[i].ins cs[i].out cs[i].up cs[i].down b1 b2
  simp only[eq_true h,go_sem]
  with_reducible repeat' (first|refine br ?_ ?_<;>intro h e<;>(try simp only[e,go_sem,hg])<;>clear e|rw[q01 (by omega)]|refine sd ?_<;>try simp only[go_sem,hg]|(first|refine cr (c1 ..) ?_)<;>try simp only[go_sem,hg]|fail)
  ·obtain⟨n,hn⟩:=Option.isSome_iff_exists.1 (by assumption)
   have hni:=qhk hn
   simp only[hn,Option.getD_some] at hnc ⊢
   refine⟨(i+1,ns++[n]),by simp only;omega,⟨by simp only;omega,by simp only[zA,zC,zN];omega, ?_, ?_⟩,leN [(1008,1051)] ?_ ?_ (by simp[q0o]) (by simp only[go_sem])⟩
   ·simp only
    rw[hnc]
    cases q16 (cs.drop (i+1))<;>simp
   ·intro c hc
    rcases List.mem_append.1 hc with hc|hc
    ·exact hnB c hc
    ·simp only[List.mem_singleton] at hc
     subst hc
     rw[hni]
     exact⟨⟨b1,b2⟩,by simp,by simp⟩
   ·simp only[go_sem];simp
   ·simp only[go_sem];simp[Conv.row]
  ·refine qpu (pin:=0) (c:=1002) ?_ (by simp only[go_sem]) (by simp only[go_sem]) (by simp only[go_sem])
   have hn:q1o cs[i].ins cs[i].out cs[i].up cs[i].down=none:=by simpa using h
   rw[hn] at hnc
   simp only[Option.map_none] at hnc
   simp[q0z,hnc]
 ·simp only[eq_false h,go_sem]
  have:i=cs.length:=by omega
  subst this
  rw[List.drop_length] at hnc
  simp only[q16,Option.map_some,List.append_nil] at hnc
  refine q2p (c56 ns (by omega) hnB) [1008] false (by simp only[go_sem];first|done|simp[E.row,Pc.row,Pair.row,Part.row,Flw.row,Pk.row,Conv.row]) (by simp only[List.mem_singleton];rintro c rfl;rfl) rfl (.inr rfl) ?_
  simp only[go_sem]
  cases ht:q17 ns<;>simp only[go_sem]
  ·refine qpu (pin:=0) (c:=1002) ?_ (by simp only[go_sem]) (by simp only[go_sem]) (by simp only[go_sem])
   simp[q0z,hnc,ht]
  ·refine qrg (c:=1002) (w:=⟨ns,.zero,[]⟩) 1008 1009 1010 1012 ?_ ?_ ?_ ?_ ?_ ?_ ?_ ?_ (by decide)
   ·simp[q0z,hnc,ht]
   all_goals simp only[go_sem,Door.zero]
theorem cvP (cs:List Conv):((cs.map Conv.row).all λr=>r.all V.plain0)=true:=by simp[Conv.row,V.plain0]
structure WS (w:M.World):Prop where
 cl:w.convs.length≤2000000
 cb:∀c∈w.convs,(c.up.length≤2000000∧c.down.length≤2000000)∧c.upGot.length≤2000000∧c.downGot.length≤2000000
 db:DB w.door
 nl:w.nets.length≤2000000
 nt:∀p∈w.nets,p.text.length≤2000000
theorem wx_ws {X:List (E×E)} {w:M.World} (h:WX X w):WS w:=by
 obtain⟨hdm,hdf,_⟩:=q07.1 h.door
 have hm:=(q0d hdm).2
 have hcl:=h.cl
 have hnl:=h.nl
 refine⟨by omega,λc hc=>?_,⟨by omega,by omega,λf hf=>?_⟩,by omega,λp hp=>?_⟩
 ·have:=q20 (h.cv c hc)
  have h1:=this.up;have h2:=this.down;have h3:=this.upGot;have h4:=this.downGot
  omega
 ·obtain⟨k,hk⟩:=List.mem_iff_getElem?.1 hf
  obtain⟨_,_,h1,h2,_⟩:=q1d h.door hk
  exact⟨(q0h h1).sb,(q0h h2).sb⟩
 ·have:=(h.net p hp).pk.len
  omega
def qzm:IC:=sR [oP 1 (.box 33 (.t 0)),oP 2 (.mv cF)] (.seq (sR [oP 3 (.mv (.c i0))] (.block 0 (.loop (.seq (sR [mV 4 3,fD 5 3 1,lD 6 1 5,oP 7 (.len (.t 6)),bN 8 .lss 4 7] (cD 8 .skip (.exit 0))) (.seq (.block 1 (sR [fD 11 3 1,lD 12 1 11,mV 13 3,oP 14 (.iad 7 (.t 12) (.t 13)),lA 15 7 14,oP 16 (.call 118 [.t 15]),oP 17 (.un .not (.t 16))] (cD 17 (sR [oP 2 (.mv cF)] .ret) .skip))) (.reg [mV 9 3,oP 10 (.bin .add (.t 9) (cI 1)),mV 3 10])))))) (sR [fD 18 0 1,lD 19 1 18,oP 20 (.call 56 [.t 19]),mV 21 20,gT 22 21 (.fad 1 (.t 1)),gT 23 21 (.ld 2 true (.t 22)),gT 24 21 (.call 194 [.t 23]),pF 25 21 24,mV 26 25,gT 27 26 (.fad 3 (.t 1)),gT 28 26 (.ld 1 false (.t 27)),gT 29 26 (.len (.t 28)),gT 30 26 (.bin .leq (.t 29) (cI 10)),pF 31 26 30,mV 2 31] .ret))
theorem dg157:Dg Tryz.prog 157 Tryz.f157 qzm [(.t 2)]:=⟨Tryz.func157,by kernel_rfl,by kernel_rfl⟩
theorem c157 (w:M.World) (h:WS w):FnR Tryz.prog G 157 [.agg [.sl 10 (w.convs.map Conv.row),.sl 3 (w.door.map.map Pair.row),.sl 8 (w.door.flows.map Flw.row),.sl 7 (w.nets.map Pk.row)]] (.bool (q5c w)):=by
 refine mF dg157 Tryz.ntmps157 ?_
 have f1:=c56 w.convs h.cl h.cb
 have f2:=c194 w.door h.db
 have e:q5c w=(q17 w.convs&&doorOk w.door&&decide (w.nets.length≤10)&&w.nets.all q48):=rfl
 simp only[qzm,go_sem]
 refine q0v (λk:Nat=>⟨q0i [(1,.pv 1001 0),(3,.int .i64 (k:Int))],q0c [(1001,.var 33 [.sl 10 (w.convs.map Conv.row),.sl 3 (w.door.map.map Pair.row),.sl 8 (w.door.flows.map Flw.row),.sl 7 (w.nets.map Pk.row)])]⟩) (λk=>w.nets.length - k) (λk=>k≤w.nets.length∧(w.nets.take k).all q48=true) 0 (leQ []) ⟨Nat.zero_le _,by simp⟩ ?_
 intro k ⟨hk,ha⟩
 simp only[go_sem]
 by_cases hh:(k:Int)<w.nets.length
 ·have hil:k<w.nets.length:=by omega
  have hg:w.nets.getD k default=w.nets[k]:=by simp[List.getD,hil]
  have fp:=c118 w.nets[k] (h.nt _ (List.getElem_mem hil))
  cases hb:q48 w.nets[k] with
  | false =>
    rw[hb] at fp
    have hbad:q5c w=false:=by
     rw[e]
     have:w.nets.all q48=false:=by
      cases hx:w.nets.all q48 with
      | false=>rfl
      | true =>
        have:=List.all_eq_true.1 hx _ (List.getElem_mem hil)
        rw[hb] at this
        cases this
     rw[this,Bool.and_false]
    simp only[eq_true hh,go_sem]
    generalize w.nets[k]=q at *
    with_reducible repeat' (first|refine br ?_ ?_<;>intro h e<;>(try simp only[e,go_sem,q00 hil,hg])<;>clear e|rw[q01 (by omega)]|refine sd ?_<;>try simp only[go_sem,q00 hil,hg]|(first|refine cr (fp ..) ?_)<;>try simp only[go_sem,q00 hil,hg]|fail)
    all_goals first|done|exact hbad|simp[hbad]
  | true =>
    rw[hb] at fp
    have hst:(w.nets.take (k+1)).all q48=true:=by
     rw[List.take_add_one,zE hil]
     simp only[Option.toList_some,List.all_append,ha,List.all_cons,List.all_nil,Bool.and_true,hb]
    simp only[eq_true hh,go_sem]
    generalize w.nets[k]=q at *
    have hnl:=h.nl
    with_reducible repeat' (first|rw[q01 (by omega)];try simp only[go_sem,q00 hil,hg]|refine br ?_ ?_<;>intro h e<;>(try simp only[e,go_sem,q00 hil,hg])<;>clear e|refine sd ?_<;>try simp only[go_sem,q00 hil,hg]|(first|refine cr (fp ..) ?_)<;>try simp only[go_sem,q00 hil,hg]|fail)
    exact⟨k+1,by omega,⟨by omega,hst⟩,(leQ [])⟩
 ·simp only[eq_false hh,go_sem]
  obtain rfl:k=w.nets.length:=by omega
  rw[List.take_length] at ha
  have e2:q5c w=(q17 w.convs&&doorOk w.door&&decide (w.nets.length≤10)):=by rw[e,ha,Bool.and_true]
  rw[e2]
  clear e e2 ha
  generalize q17 w.convs=b1 at *
  generalize doorOk w.door=b2 at *
  with_reducible repeat' (first|refine br ?_ ?_<;>intro h e<;>(try simp only[e,go_sem])<;>clear e|rw[q01 (by omega)]|refine sd ?_<;>try simp only[go_sem]|(first|refine cr (f1 ..) ?_|refine cr (f2 ..) ?_)<;>try simp only[go_sem]|fail)
  all_goals first|done|(clear f1 f2;simp_all;done)|(clear f1 f2;simp_all;omega)|trace_state
def qxl:IC:=sR [oP 1 (.box 33 (.t 0)),oP 2 (.alloc 33 [.nils,.nils,.nils,.nils])] (.seq (.drw [0,0,2,7,0,16,63,0,0,256,1023,2047,4095] [(0,oP 3 (.bsl 69 10 [])),(1,fD 4 0 1),(2,lD 5 1 4),(3,oP 6 (.app 69 10 (.t 3) (.t 5))),(4,fD 7 1 1),(5,lA 8 2 7),(6,oP 9 (.call 195 [.t 8])),(7,oP 10 (.bsl 65 7 [])),(8,fD 11 3 1),(9,lD 12 1 11),(10,oP 13 (.app 65 7 (.t 10) (.t 12))),(11,oP 14 (.build [.nils,.nils,.nils,.nils] [(0,(1,.t 6)),(1,(2,.t 9)),(3,(1,.t 13))])),(12,nP (.sto 4 (.t 2) (.t 14)))]) .ret)
theorem dg158:Dg Tryz.prog 158 Tryz.f158 qxl [(.cell 2 4 true)]:=⟨Tryz.func158,by kernel_rfl,by kernel_rfl⟩
theorem c158 {X:List (E×E)} (w:M.World) (hw:WX X w):FnP Tryz.prog G 158 0 [] [.agg [.sl 10 (w.convs.map Conv.row),.sl 3 (w.door.map.map Pair.row),.sl 8 (w.door.flows.map Flw.row),.sl 7 (w.nets.map Pk.row)]] (q6p w):=by
 refine mP dg158 Tryz.ntmps158 ⟨_,_,rfl,rfl⟩ ?_
 have hnl:=hw.nl
 have hcl:=hw.cl
 have hfl:=hw.flows3
 obtain⟨hdm,hdf,_⟩:=q07.1 hw.door
 have hml:=(q0d hdm).2
 simp only[qxl,go_sem]
 with_reducible repeat' (first|refine br ?_ ?_<;>intro h e<;>(try simp only[e,go_sem])<;>clear e|rw[q01 (by omega)]|refine sd ?_<;>try simp only[go_sem]|fail)
 refine q5b (c195 (w.door.map.map Pair.row) w.door.flows (by simp;omega) (by omega) (copyC hw.door)) [] 9 2 (by simp only[go_sem];first|done|simp) (by simp) (by rintro _ _ ⟨rfl,rfl⟩;simp) (by intro i hi;rcases(show i=0∨i=1 by omega) with rfl|rfl<;>simp only[go_sem]) ?_
 rintro _ _ ⟨rfl,rfl⟩
 simp only[go_sem]
 with_reducible repeat' (first|refine br ?_ ?_<;>intro h e<;>(try simp only[e,go_sem])<;>clear e|rw[q01 (by omega)]|refine sd ?_<;>try simp only[go_sem]|fail)
 exact q1e (d:=2) (c:=1002) 1006 100900 100901 1013 (by simp only[go_sem]) (by simp only[go_sem];first|done|simp) (by simp only[go_sem];first|done|simp) (by simp only[go_sem]) (by simp only[go_sem]) (by simp only[go_sem];first|done|simp) (by decide)
def quy:IC:=sR [oP 4 (.box 65 (.t 1))] (sR [oP 6 (.mv (.c i0))] (.block 0 (.loop (.seq (sR [mV 7 2,mV 8 7,gT 9 8 (.mv (.t 6)),gT 10 8 (.bin .lss (.t 9) (cI 4)),pF 11 8 10] (cD 11 .skip (.exit 0))) (.seq (.block 1 (.reg [mV 15 0,lA 16 7 4,oP 17 (.call 69 [.t 15,.t 16]),mV 14 17,eX 18 14 0,eX 19 14 1,nP (.sto 7 (.t 4) (.t 18)),mV 2 19])) (.reg [mV 12 6,oP 13 (.bin .add (.t 12) (cI 1)),mV 6 13]))))))
theorem dg152:Dg Tryz.prog 152 Tryz.f152 quy []:=⟨Tryz.func152,by kernel_rfl,by kernel_rfl⟩
theorem c152 {X:List (E×E)} (w:M.World) (p:Pk) (ok:Bool) (hw:WX X w) (hp:ok=true→NetX X w.convs p):FnP Tryz.prog G 152 1 [.var 33 [.own 2 w.convs.length,.sl 3 (w.door.map.map Pair.row),.own 1 w.door.flows.length,.own 3 w.nets.length],.arr 169 8 (w.door.flows.map Flw.row),.arr 69 10 (w.convs.map Conv.row),.arr 65 7 (w.nets.map Pk.row)] [.pv 0 0,.agg [.int .i64 p.kind,.int .i64 p.frm.a,.int .i64 p.frm.p,.int .i64 p.to.a,.int .i64 p.to.p,.int .i64 p.at_,.str p.text],.bool ok] (λr o=>r=.tup []∧∃v,v=through 4 w (bif ok then some p else none)∧o=[.var 33 [.own 2 v.convs.length,.sl 3 (v.door.map.map Pair.row),.own 1 v.door.flows.length,.own 3 v.nets.length],.arr 169 8 (v.door.flows.map Flw.row),.arr 69 10 (v.convs.map Conv.row),.arr 65 7 (v.nets.map Pk.row)]):=by
 refine mP dg152 Tryz.ntmps152 ⟨_,_,rfl,_,rfl,rfl⟩ ?_
 have fin:∀l mm (v:M.World),v=through 4 w (bif ok then some p else none)→q0c mm 0=.var 33 [.own 2 v.convs.length,.sl 3 (v.door.map.map Pair.row),.own 1 v.door.flows.length,.own 3 v.nets.length]→q0c mm 1=.arr 169 8 (v.door.flows.map Flw.row)→q0c mm 2=.arr 69 10 (v.convs.map Conv.row)→q0c mm 3=.arr 65 7 (v.nets.map Pk.row) →
  q59 [] 1 (λr o=>r=.tup []∧∃v,v=through 4 w (bif ok then some p else none)∧o=[.var 33 [.own 2 v.convs.length,.sl 3 (v.door.map.map Pair.row),.own 1 v.door.flows.length,.own 3 v.nets.length],.arr 169 8 (v.door.flows.map Flw.row),.arr 69 10 (v.convs.map Conv.row),.arr 65 7 (v.nets.map Pk.row)]) .normal ⟨q0i l,q0c mm⟩:=λl mm v h0 h1 h2 h3 h4=>by
  show q59 _ _ _ .ret _
  refine q1m (.tup []) [.var 33 [.own 2 v.convs.length,.sl 3 (v.door.map.map Pair.row),.own 1 v.door.flows.length,.own 3 v.nets.length],.arr 169 8 (v.door.flows.map Flw.row),.arr 69 10 (v.convs.map Conv.row),.arr 65 7 (v.nets.map Pk.row)] [] (by simp only[go_sem,qfq]) ⟨rfl,v,h0,rfl⟩ ?_ (by simp[q1c,q0o]) (by simp only[go_sem])
  simp only[go_sem,h1,h2,h3,h4]
 simp only[quy,go_sem]
 refine q0v (λa:Nat×M.World×Pk×Bool=>⟨q0i [(0,.pv 0 0),(2,.bool a.2.2.2),(4,.pv 1004 0),(6,.int .i64 (a.1:Int))],q0c [(0,.var 33 [.own 2 a.2.1.convs.length,.sl 3 (a.2.1.door.map.map Pair.row),.own 1 a.2.1.door.flows.length,.own 3 a.2.1.nets.length]),(1,.arr 169 8 (a.2.1.door.flows.map Flw.row)),(2,.arr 69 10 (a.2.1.convs.map Conv.row)),(3,.arr 65 7 (a.2.1.nets.map Pk.row)),(1004,.var 65 (Pk.row a.2.2.1))]⟩)
  (λa=>4 - a.1) (λa=>a.1≤4∧WX X a.2.1∧(a.2.2.2=true→NetX X a.2.1.convs a.2.2.1)∧through 4 w (bif ok then some p else none)=through (4 - a.1) a.2.1 (bif a.2.2.2 then some a.2.2.1 else none)) (0,w,p,ok) (leQ []) ⟨Nat.zero_le _,hw,hp,rfl⟩ ?_
 intro⟨n,v,q,b⟩ ⟨hn,hv,hq,he⟩
 simp only at hn hv hq he
 simp only[go_sem]
 cases b
 ·simp only[go_sem]
  rw[cond_false,q7n] at he
  exact fin _ _ v he.symm (by simp only[go_sem]) (by simp only[go_sem]) (by simp only[go_sem]) (by simp only[go_sem])
 by_cases h:(n:Int)<4
 ·have hq:=hq rfl
  obtain⟨k1,k2⟩:=q9e hv hq
  have e4:4 - n=(4 - (n+1))+1:=by omega
  rw[cond_true,e4] at he
  simp only[through] at he
  simp only[eq_true h,go_sem]
  refine q0m (x69 v q hv hq.pk) [0,1,2,3] [] true 17 4 (by simp only[go_sem];first|done|simp) (by simp only[go_sem];first|done|simp) (by simp) (by simp) (by simp) ?_ ?_ ?_
  ·rintro res out ⟨q,rfl,hq,rfl⟩
   exact⟨by simp,by simp,.inl rfl,λi hi=>by obtain rfl:i=0:=(by omega);simp[chH,q09]⟩
  ·intro i hi
   rcases(show i=0∨i=1∨i=2∨i=3 by omega) with rfl|rfl|rfl|rfl<;>simp only[go_sem]
  rintro res out ⟨q',rfl,hq',rfl⟩
  generalize carry v q=x at *
  obtain⟨v',o⟩:=x
  simp only at k1 k2 he hq'
  have ho:(bif o.isSome then some q' else none)=o:=by
   cases o with
   | none=>rfl
   | some y=>rw[hq' y rfl];rfl
  simp only[go_sem]
  with_reducible repeat' (first|rw[q01 (by omega)];try simp only[go_sem]|refine br ?_ ?_<;>intro h e<;>(try simp only[e,go_sem])<;>clear e|refine sd ?_<;>try simp only[go_sem]|fail)
  exact⟨(n+1,v',q',o.isSome),by simp only;omega,⟨by simp only;omega,k1,λhb=>k2 q' (by rw[←ho];simp only at hb;rw[hb];rfl),by simp only;rw[ho];exact he⟩,(leQ [(1,101701),(2,101702),(3,101703)])⟩
 ·simp only[eq_false h,go_sem]
  have e0:4 - n=0:=by omega
  rw[e0] at he
  exact fin _ _ v he.symm (by simp only[go_sem]) (by simp only[go_sem]) (by simp only[go_sem]) (by simp only[go_sem])
theorem qg8 {n k:Nat} (h:k<n):(List.range n).drop k=k::(List.range n).drop (k+1):=by
 have:=List.drop_eq_getElem_cons (l:=List.range n) (i:=k) (by simpa using h)
 rw[this];simp
theorem qa7 {w:M.World} {i:Nat} {c c1:Conv} (h:w.convs[i]?=some c) {o1 o2:Option Pk} {w1:M.World} (h1:say c true 0 c.upAck 24=o1) (hw:w1=through 4 w o1) (hc:w1.convs[i]?=some c1) (h2:say c1 false (portOf w1.door.map c1.ins) c1.downAck 24=o2):sayRound w i=through 4 w1 o2:=by
 unfold sayRound
 rw[h]
 simp only
 rw[h1,←hw,hc]
 simp only
 rw[h2]
def qvk:IC:=sR [mV 6 0,oP 7 (.nilc (.t 6)),fD 8 3 7,lD 9 1 8,mV 2 9] (sR [mV 10 0,oP 11 (.nilc (.t 10)),fD 12 3 11,nP (.sto 1 (.t 12) (.c .nils))] (.seq (sR [mV 13 2,oP 14 (.len (.t 13)),oP 15 (.mv (.c i0))] (.block 0 (.loop (sR [bN 16 .lss 15 14] (.seq (cD 16 .skip (.exit 0)) (.seq (.block 1 (sR [oP 17 (.iad 7 (.t 13) (.t 15)),lA 18 7 17,oP 4 (.alloc 65 [i0,i0,i0,i0,i0,i0,s0]),nP (.sto 7 (.t 4) (.t 18))] (.reg [mV 19 0,lA 20 7 4,oP 21 (.call 152 [.t 19,.t 20,cT])]))) (.reg [oP 22 (.bin .add (.t 15) (cI 1)),mV 15 22]))))))) (sR [mV 23 0,oP 24 (.nilc (.t 23)),fD 25 0 24,lD 26 1 25,oP 27 (.len (.t 26)),oP 28 (.mv (.c i0))] (.block 2 (.loop (sR [bN 29 .lss 28 27] (.seq (cD 29 .skip (.exit 2)) (.seq (.block 3 (sR [mV 30 28,mV 5 30] (.seq (.drw [0,0,2,6,14,0,62,126,0,256,768,1792,0,7936,16128,32512,65534,131070,131070,524287] [(0,mV 31 0),(1,mV 32 0),(2,oP 33 (.nilc (.t 32))),(3,fD 34 0 33),(4,lD 35 1 34),(5,mV 36 5),(6,oP 37 (.iad 10 (.t 35) (.t 36))),(7,lA 38 10 37),(8,mV 39 0),(9,oP 40 (.nilc (.t 39))),(10,fD 41 0 40),(11,lD 42 1 41),(12,mV 43 5),(13,oP 44 (.iad 10 (.t 42) (.t 43))),(14,fD 45 6 44),(15,lD 46 1 45),(16,oP 47 (.call 67 [.t 38,cT,.c i0,.t 46,cI 24])),(17,eX 48 47 0),(18,eX 49 47 1),(19,oP 50 (.call 152 [.t 31,.t 48,.t 49]))]) (.drw [0,0,2,6,14,0,62,126,0,0,768,0,2048,6144,14336,0,63488,129024,260096,524286,1048574,1048574,4194303] [(0,mV 51 0),(1,mV 52 0),(2,oP 53 (.nilc (.t 52))),(3,fD 54 0 53),(4,lD 55 1 54),(5,mV 56 5),(6,oP 57 (.iad 10 (.t 55) (.t 56))),(7,lA 58 10 57),(8,mV 59 0),(9,mV 60 5),(10,oP 61 (.call 68 [.t 59,.t 60])),(11,mV 62 0),(12,oP 63 (.nilc (.t 62))),(13,fD 64 0 63),(14,lD 65 1 64),(15,mV 66 5),(16,oP 67 (.iad 10 (.t 65) (.t 66))),(17,fD 68 7 67),(18,lD 69 1 68),(19,oP 70 (.call 67 [.t 58,cF,.t 61,.t 69,cI 24])),(20,eX 71 70 0),(21,eX 72 70 1),(22,oP 73 (.call 152 [.t 51,.t 71,.t 72]))])))) (.reg [oP 74 (.bin .add (.t 28) (cI 1)),mV 28 74])))))))))
theorem dg101:Dg Tryz.prog 101 Tryz.f101 qvk []:=⟨Tryz.func101,by kernel_rfl,by kernel_rfl⟩
set_option maxHeartbeats 1000000 in
theorem c101 {X:List (E×E)} (w:M.World) (hw:WX X w):FnP Tryz.prog G 101 1 [.var 33 [.own 2 w.convs.length,.sl 3 (w.door.map.map Pair.row),.own 1 w.door.flows.length,.own 3 w.nets.length],.arr 169 8 (w.door.flows.map Flw.row),.arr 69 10 (w.convs.map Conv.row),.arr 65 7 (w.nets.map Pk.row)] [.pv 0 0] (λr o=>r=.tup []∧∃v,v=M.round w∧o=[.var 33 [.own 2 v.convs.length,.sl 3 (v.door.map.map Pair.row),.own 1 v.door.flows.length,.own 3 v.nets.length],.arr 169 8 (v.door.flows.map Flw.row),.arr 69 10 (v.convs.map Conv.row),.arr 65 7 (v.nets.map Pk.row)]):=by
 refine mP dg101 Tryz.ntmps101 ⟨_,_,rfl,_,rfl,rfl⟩ ?_
 have hnl:=hw.nl
 have hcl:=hw.cl
 have opt_i:∀o:Option Pk,(bif o.isSome then some (o.getD .zero) else none)=o:=λo=>by cases o<;>rfl
 simp only[qvk,go_sem]
 with_reducible repeat' (first|refine br ?_ ?_<;>intro h e<;>(try simp only[e,go_sem])<;>clear e|rw[q01 (by omega)]|refine sd ?_<;>try simp only[go_sem]|fail)
 refine q0v (λa:Nat×M.World=>⟨q0i [(0,.pv 0 0),(13,.own 3 w.nets.length),(14,.int .i64 w.nets.length),(15,.int .i64 (a.1:Int))],q0c [(0,.var 33 [.own 2 a.2.convs.length,.sl 3 (a.2.door.map.map Pair.row),.own 1 a.2.door.flows.length,.own 200003 a.2.nets.length]),(1,.arr 169 8 (a.2.door.flows.map Flw.row)),(2,.arr 69 10 (a.2.convs.map Conv.row)),(200003,.arr 65 7 (a.2.nets.map Pk.row)),(3,.arr 65 7 (w.nets.map Pk.row))]⟩)
  (λa=>w.nets.length - a.1) (λa=>a.1≤w.nets.length∧WX X a.2∧Ext w a.2∧w.nets.foldl (λw p=>through 4 w (some p)) { w with nets:=[] }=(w.nets.drop a.1).foldl (λw p=>through 4 w (some p)) a.2) (0,{ w with nets:=[] })
  (St.le_trans (qfx (row:=[.own 2 w.convs.length,.sl 3 (w.door.map.map Pair.row),.own 1 w.door.flows.length,.nils]) 0 200003 65 7 33 3 (by simp only[go_sem]) (by decide) (by simp only[go_sem]) rfl) (leN [] (by simp only[go_sem]) (by simp only[go_sem,List.set_cons_succ,List.set_cons_zero]) (by simp[q0o]) (by simp only[go_sem]))) ⟨Nat.zero_le _,hw.empty,.same rfl rfl,by simp⟩ ?_
 intro⟨k,v⟩ ⟨hk,hv,hx,he⟩
 simp only at hk hv hx he
 simp only[go_sem]
 by_cases h:(k:Int)<w.nets.length
 ·have hil:k<w.nets.length:=by omega
  have hg:w.nets.getD k default=w.nets[k]:=by simp[List.getD,hil]
  rw[List.drop_eq_getElem_cons hil,List.foldl_cons] at he
  have hnp:=(hw.net _ (List.getElem_mem hil)).ext hx
  generalize w.nets[k]=p at *
  simp only[eq_true h,go_sem]
  with_reducible repeat' (first|rw[q01 (by omega)];try simp only[go_sem,q00 hil,hg]|refine br ?_ ?_<;>intro h e<;>(try simp only[e,go_sem,q00 hil,hg])<;>clear e|refine sd ?_<;>try simp only[go_sem,q00 hil,hg]|fail)
  refine q0m (c152 v p true hv (λ_=>hnp)) [0,1,2,200003] [] true 21 4 (by simp only[go_sem];first|done|simp) (by simp only[go_sem];first|done|simp) (by simp) (by simp) (by simp) ?_ ?_ ?_
  ·rintro _ _ ⟨rfl,v',hv',rfl⟩
   exact⟨by simp,by simp,.inl rfl,λi hi=>by obtain rfl:i=0:=(by omega);simp[chH,q09]⟩
  ·intro i hi
   rcases(show i=0∨i=1∨i=2∨i=3 by omega) with rfl|rfl|rfl|rfl<;>simp only[go_sem]
  rintro _ _ ⟨rfl,v',hv',rfl⟩
  simp only[go_sem]
  with_reducible repeat' (first|rw[q01 (by omega)];try simp only[go_sem]|refine br ?_ ?_<;>intro h e<;>(try simp only[e,go_sem])<;>clear e|refine sd ?_<;>try simp only[go_sem]|fail)
  rw[cond_true] at hv'
  exact⟨(k+1,v'),by simp only;omega,⟨by simp only;omega,by rw[hv'];exact hv.through 4 (λq hq=>by cases hq;exact hnp),by rw[hv'];exact hx.trans (q15 4 _ _),by rw[hv'];exact he⟩,(leQ [(1,102101),(2,102102),(200003,102103)])⟩
 simp only[eq_false h,go_sem]
 obtain rfl:k=w.nets.length:=by omega
 rw[List.drop_length,List.foldl_nil] at he
 have hrd:M.round w=(List.range v.convs.length).foldl sayRound v:=by rw[←he];rfl
 clear he hx h
 with_reducible repeat' (first|refine br ?_ ?_<;>intro h e<;>(try simp only[e,go_sem])<;>clear e|rw[q01 (by omega)]|refine sd ?_<;>try simp only[go_sem]|fail)
 have hvl:=hv.cl
 generalize hn:v.convs.length=n at *
 refine q0v (λa:Nat×M.World=>⟨q0i [(0,.pv 0 0),(27,.int .i64 n),(28,.int .i64 (a.1:Int))],q0c [(0,.var 33 [.own 2 a.2.convs.length,.sl 3 (a.2.door.map.map Pair.row),.own 1 a.2.door.flows.length,.own 200003 a.2.nets.length]),(1,.arr 169 8 (a.2.door.flows.map Flw.row)),(2,.arr 69 10 (a.2.convs.map Conv.row)),(200003,.arr 65 7 (a.2.nets.map Pk.row))]⟩)
  (λa=>n - a.1) (λa=>a.1≤n∧WX X a.2∧a.2.convs.length=n∧M.round w=((List.range n).drop a.1).foldl sayRound a.2) (0,v) (leQ []) ⟨Nat.zero_le _,hv,hn,by simpa using hrd⟩ ?_
 clear hrd hv hn v
 intro⟨k,v⟩ ⟨hk,hv,hn,he⟩
 simp only at hk hv hn he
 simp only[go_sem]
 by_cases h:(k:Int)<n
 ·have hil:k<v.convs.length:=by omega
  have hg:v.convs.getD k default=v.convs[k]:=by simp[List.getD,hil]
  have hg2:=zE hil
  have hcb:=q20 (hv.cv _ (List.getElem_mem hil))
  have hcm:=List.getElem_mem hil
  rw[qg8 (by omega),List.foldl_cons] at he
  generalize v.convs[k]=c at *
  have fs:=c67 c true 0 c.upAck 24 (by have:=hcb.up;omega) (by have:=hcb.down;omega)
  have hsn:∀p,say c true 0 c.upAck 24=some p→NetX X v.convs p:=λp hp=>(q2x hcm (hv.cv c hcm) hp).x
  simp only[eq_true h,go_sem]
  with_reducible repeat' (first|rw[q01 (by omega)];try simp only[go_sem,q00 hil,hg]|refine br ?_ ?_<;>intro h e<;>(try simp only[e,go_sem,q00 hil,hg])<;>clear e|refine sd ?_<;>try simp only[go_sem,q00 hil,hg]|(first|refine cr (fs ..) ?_)<;>try simp only[go_sem,q00 hil,hg]|fail)
  generalize ho:say c true 0 c.upAck 24=o at *
  refine q0m (c152 v (o.getD .zero) o.isSome hv (λhb=>hsn _ (by cases o with|none=>cases hb|some y=>rfl))) [0,1,2,200003] [] true 50 4 (by simp only[go_sem];first|done|simp) (by simp only[go_sem];first|done|simp) (by simp) (by simp) (by simp) ?_ ?_ ?_
  ·rintro _ _ ⟨rfl,v',hv',rfl⟩
   exact⟨by simp,by simp,.inl rfl,λi hi=>by obtain rfl:i=0:=(by omega);simp[chH,q09]⟩
  ·intro i hi
   rcases(show i=0∨i=1∨i=2∨i=3 by omega) with rfl|rfl|rfl|rfl<;>simp only[go_sem]
  rintro _ _ ⟨rfl,v1,hv1,rfl⟩
  rw[opt_i] at hv1
  have hw1:WX X v1:=by rw[hv1];exact hv.through 4 hsn
  have hx1:Ext v v1:=by rw[hv1];exact q15 4 _ _
  have hil1:k<v1.convs.length:=by rw[hx1.len];exact hil
  have hg1:v1.convs.getD k default=v1.convs[k]:=by simp[List.getD,hil1]
  have hg3:=zE hil1
  have hcb1:=q20 (hw1.cv _ (List.getElem_mem hil1))
  have hcm1:=List.getElem_mem hil1
  have hml1:=(q0d (q07.1 hw1.door).1).2
  have fp:=c68 v1 k hil1 (by omega)
  rw[hg1] at fp
  generalize v1.convs[k]=c1 at *
  have fs1:=c67 c1 false (portOf v1.door.map c1.ins) c1.downAck 24 (by have:=hcb1.up;omega) (by have:=hcb1.down;omega)
  have hsn1:∀p,say c1 false (portOf v1.door.map c1.ins) c1.downAck 24=some p→NetX X v1.convs p:=λp hp=>(q2x hcm1 (hw1.cv c1 hcm1) hp).x
  simp only[go_sem]
  with_reducible repeat' (first|rw[q01 (by omega)];try simp only[go_sem,q00 hil1,hg1]|refine br ?_ ?_<;>intro h e<;>(try simp only[e,go_sem,q00 hil1,hg1])<;>clear e|refine sd ?_<;>try simp only[go_sem,q00 hil1,hg1]|fail)
  refine qpg fp [0,105001,105002,105003] 61 4 (by simp only[go_sem];first|done|simp) (by simp only[go_sem];first|done|simp) (by simp) (by simp) ?_ ?_ ?_ ?_
  ·rintro _ _ ⟨rfl,rfl⟩
   exact⟨by simp,by simp,λi hi=>by rcases(show i=0∨i=1∨i=2∨i=3 by omega) with rfl|rfl|rfl|rfl<;>simp[chH,q09]⟩
  ·intro i hi
   rcases(show i=0∨i=1∨i=2∨i=3 by omega) with rfl|rfl|rfl|rfl<;>simp only[go_sem]
  ·rintro _ _ ⟨rfl,rfl⟩ x hx
   simp only[go_sem,List.drop_succ_cons,List.drop_nil,List.append_nil,List.mem_cons,List.not_mem_nil,or_false] at hx
   rcases hx with rfl|rfl|rfl|rfl<;>simp only[go_sem]
  rintro _ _ ⟨rfl,rfl⟩
  simp only[go_sem]
  with_reducible repeat' (first|rw[q01 (by omega)];try simp only[go_sem,q00 hil1,hg1]|refine br ?_ ?_<;>intro h e<;>(try simp only[e,go_sem,q00 hil1,hg1])<;>clear e|refine sd ?_<;>try simp only[go_sem,q00 hil1,hg1]|(first|refine cr (fs1 ..) ?_)<;>try simp only[go_sem,q00 hil1,hg1]|fail)
  generalize ho1:say c1 false (portOf v1.door.map c1.ins) c1.downAck 24=o1 at *
  have hse:=qa7 hg2 ho hv1 hg3 ho1
  refine q0m (c152 v1 (o1.getD .zero) o1.isSome hw1 (λhb=>hsn1 _ (by cases o1 with|none=>cases hb|some y=>rfl))) [0,105001,105002,105003] [] true 73 4 (by simp only[go_sem];first|done|simp) (by simp only[go_sem];first|done|simp) (by simp) (by simp) (by simp) ?_ ?_ ?_
  ·rintro _ _ ⟨rfl,v',hv',rfl⟩
   exact⟨by simp,by simp,.inl rfl,λi hi=>by obtain rfl:i=0:=(by omega);simp[chH,q09]⟩
  ·intro i hi
   rcases(show i=0∨i=1∨i=2∨i=3 by omega) with rfl|rfl|rfl|rfl<;>simp only[go_sem]
  rintro _ _ ⟨rfl,v2,hv2,rfl⟩
  rw[opt_i] at hv2
  simp only[go_sem]
  with_reducible repeat' (first|rw[q01 (by omega)];try simp only[go_sem]|refine br ?_ ?_<;>intro h e<;>(try simp only[e,go_sem])<;>clear e|refine sd ?_<;>try simp only[go_sem]|fail)
  rw[hse,←hv2] at he
  exact⟨(k+1,v2),by simp only;omega,⟨by simp only;omega,by rw[hv2];exact hw1.through 4 hsn1,by rw[hv2];simp only;rw[(q15 4 v1 o1).len,hx1.len,hn],he⟩,(leQ [(1,107301),(2,107302),(200003,107303)])⟩
 ·simp only[eq_false h,go_sem]
  obtain rfl:k=n:=by omega
  rw[show(List.range k).drop k=[] by simp,List.foldl_nil] at he
  show q59 _ _ _ .ret _
  refine q1m (.tup []) [.var 33 [.own 2 v.convs.length,.sl 3 (v.door.map.map Pair.row),.own 1 v.door.flows.length,.own 3 v.nets.length],.arr 169 8 (v.door.flows.map Flw.row),.arr 69 10 (v.convs.map Conv.row),.arr 65 7 (v.nets.map Pk.row)] [(3,200003)] (by simp only[go_sem,qfq]) ⟨rfl,v,he.symm,rfl⟩ ?_ (by simp[q1c,q0o]) (by simp only[go_sem])
  simp only[go_sem]
def qyv:IC:=sR [oP 3 (.box 33 (.t 0)),oP 4 (.box 65 (.t 1)),oP 6 (.alloc 33 [.nils,.nils,.nils,.nils])] (.seq (sR [oP 7 (.mv (.c i0))] (.block 0 (.loop (.seq (sR [mV 8 2,mV 9 8,gT 10 9 (.mv (.t 7)),gT 11 9 (.bin .lss (.t 10) (cI 4)),pF 12 9 11] (cD 12 .skip (.exit 0))) (.seq (.block 1 (.reg [lA 16 4 3,lA 17 7 4,oP 18 (.call 117 [.t 16,.t 17]),mV 15 18,eX 19 15 0,eX 20 15 1,eX 21 15 2,nP (.sto 4 (.t 3) (.t 19)),nP (.sto 7 (.t 4) (.t 20)),mV 2 21])) (.reg [mV 13 7,oP 14 (.bin .add (.t 13) (cI 1)),mV 7 14])))))) (sR [lA 22 4 3,nP (.sto 4 (.t 6) (.t 22))] .ret))
theorem dg196:Dg Tryz.prog 196 Tryz.f196 qyv [(.cell 6 4 true)]:=⟨Tryz.func196,by kernel_rfl,by kernel_rfl⟩
theorem x196 {X:List (E×E)} (w:M.World) (p:Pk) (ok:Bool) (hw:WX X w) (hp:ok=true→NetX X w.convs p):FnP Tryz.prog G 196 0 [.arr 69 10 (w.convs.map Conv.row),.arr 145 3 (w.door.map.map Pair.row),.arr 169 8 (w.door.flows.map Flw.row),.arr 65 7 (w.nets.map Pk.row)] [.agg [.own 0 w.convs.length,.own 1 w.door.map.length,.own 2 w.door.flows.length,.own 3 w.nets.length],.agg [.int .i64 p.kind,.int .i64 p.frm.a,.int .i64 p.frm.p,.int .i64 p.to.a,.int .i64 p.to.p,.int .i64 p.at_,.str p.text],.bool ok] (q6p (through 4 w (bif ok then some p else none))):=by
 refine mP dg196 Tryz.ntmps196 ⟨_,_,rfl,rfl⟩ ?_
 simp only[qyv,go_sem]
 with_reducible repeat' (first|refine br ?_ ?_<;>intro h e<;>(try simp only[e,go_sem])<;>clear e|rw[q01 (by omega)]|refine sd ?_<;>try simp only[go_sem]|fail)
 refine q0v (λa:Nat×M.World×Pk×Bool=>⟨q0i [(2,.bool a.2.2.2),(3,.pv 1003 0),(4,.pv 1004 0),(6,.pv 1006 0),(7,.int .i64 (a.1:Int))],q0c [(1003,.var 33 [.own 0 a.2.1.convs.length,.own 1 a.2.1.door.map.length,.own 2 a.2.1.door.flows.length,.own 3 a.2.1.nets.length]),(1004,.var 65 (Pk.row a.2.2.1)),(1006,.var 33 [.nils,.nils,.nils,.nils]),(0,.arr 69 10 (a.2.1.convs.map Conv.row)),(1,.arr 145 3 (a.2.1.door.map.map Pair.row)),(2,.arr 169 8 (a.2.1.door.flows.map Flw.row)),(3,.arr 65 7 (a.2.1.nets.map Pk.row))]⟩)
  (λa=>4 - a.1) (λa=>a.1≤4∧WX X a.2.1∧(a.2.2.2=true→NetX X a.2.1.convs a.2.2.1)∧through 4 w (bif ok then some p else none)=through (4 - a.1) a.2.1 (bif a.2.2.2 then some a.2.2.1 else none)) (0,w,p,ok) (leQ []) ⟨Nat.zero_le _,hw,hp,rfl⟩ ?_
 intro⟨n,v,q,b⟩ ⟨hn,hv,hq,he⟩
 simp only at hn hv hq he
 simp only[go_sem]
 cases b
 ·simp only[go_sem]
  rw[cond_false,q7n] at he
  rw[he]
  with_reducible repeat' (first|refine br ?_ ?_<;>intro h e<;>(try simp only[e,go_sem])<;>clear e|rw[q01 (by omega)]|refine sd ?_<;>try simp only[go_sem]|fail)
  exact q1e (d:=6) (c:=1006) 0 1 2 3 (by simp only[go_sem]) (by simp only[go_sem]) (by simp only[go_sem]) (by simp only[go_sem]) (by simp only[go_sem]) (by simp only[go_sem]) (by decide)
 by_cases h:(n:Int)<4
 ·have hq:=hq rfl
  obtain⟨k1,k2⟩:=q9e hv hq
  have e4:4 - n=(4 - (n+1))+1:=by omega
  rw[cond_true,e4] at he
  simp only[through] at he
  simp only[eq_true h,go_sem]
  with_reducible repeat' (first|refine br ?_ ?_<;>intro h e<;>(try simp only[e,go_sem])<;>clear e|rw[q01 (by omega)]|refine sd ?_<;>try simp only[go_sem]|fail)
  refine q25 (x117 v q hv hq.pk) [0,1,2,3] [] 18 4 (by simp only[go_sem];first|done|simp) (by simp only[go_sem];first|done|simp) (by simp) (by simp) (by rintro _ _ ⟨rfl,rfl⟩;simp) (by intro i hi;rcases(show i=0∨i=1∨i=2∨i=3 by omega) with rfl|rfl|rfl|rfl<;>simp only[go_sem]) ?_
  rintro _ _ ⟨rfl,rfl⟩
  generalize carry v q=x at *
  obtain⟨v',o⟩:=x
  simp only at k1 k2 he
  simp only[go_sem]
  with_reducible repeat' (first|rw[q01 (by omega)];try simp only[go_sem]|refine br ?_ ?_<;>intro h e<;>(try simp only[e,go_sem])<;>clear e|refine sd ?_<;>try simp only[go_sem]|fail)
  exact⟨(n+1,v',o.getD .zero,o.isSome),by simp only;omega,⟨by simp only;omega,k1,λhb=>k2 _ (by cases o with|none=>cases hb|some y=>rfl),by simp only;rw[qgn];exact he⟩,(leQ [(0,101800),(1,101801),(2,101802),(3,101803)])⟩
 ·simp only[eq_false h,go_sem]
  have e0:4 - n=0:=by omega
  rw[e0,cond_true,show through 0 v (some q)=v from rfl] at he
  rw[he]
  with_reducible repeat' (first|refine br ?_ ?_<;>intro h e<;>(try simp only[e,go_sem])<;>clear e|rw[q01 (by omega)]|refine sd ?_<;>try simp only[go_sem]|fail)
  exact q1e (d:=6) (c:=1006) 0 1 2 3 (by simp only[go_sem]) (by simp only[go_sem]) (by simp only[go_sem]) (by simp only[go_sem]) (by simp only[go_sem]) (by simp only[go_sem]) (by decide)
theorem qpj (w:M.World) {i:Nat} {c:Conv} (h:w.convs[i]?=some c):sayW w true i c.upAck 24=say c true 0 c.upAck 24∧sayW w false i c.downAck 24=say c false (portOf w.door.map c.ins) c.downAck 24:=by
 have hl:=(List.getElem?_eq_some_iff.1 h).1
 have hwi:q0g (i:Int) 0 ((w.convs.length:Int) - 1)=true:=M.within_iff.2 (by omega)
 unfold sayW
 simp only[hwi,Int.toNat_natCast,h]
 simp
def j0e:IC:=sR [oP 1 (.box 33 (.t 0)),oP 2 (.alloc 33 [.nils,.nils,.nils,.nils])] (sR [fD 10 3 1,lD 11 1 10,mV 3 11] (sR [oP 12 (.bsl 65 7 []),fD 13 3 1,nP (.sto 1 (.t 13) (.t 12))] (.seq (sR [oP 4 (.mv (.c i0))] (.block 0 (.loop (.seq (sR [mV 14 4,mV 15 3,oP 16 (.len (.t 15)),bN 17 .lss 14 16] (cD 17 .skip (.exit 0))) (.seq (.block 1 (.drw [0,0,0,6,14,31,63] [(0,lA 20 4 1),(1,mV 21 3),(2,mV 22 4),(3,oP 23 (.iad 7 (.t 21) (.t 22))),(4,lA 24 7 23),(5,oP 25 (.call 196 [.t 20,.t 24,cT])),(6,nP (.sto 4 (.t 1) (.t 25)))])) (.reg [mV 18 4,oP 19 (.bin .add (.t 18) (cI 1)),mV 4 19])))))) (.seq (sR [oP 5 (.mv (.c i0))] (.block 2 (.loop (.seq (sR [mV 26 5,fD 27 0 1,lD 28 1 27,oP 29 (.len (.t 28)),bN 30 .lss 26 29] (cD 30 .skip (.exit 2))) (.seq (.block 3 (.seq (.drw [0,0,0,4,0,28,60,124,254,511,1023,2047,2047,0,12287,32767] [(0,lA 34 4 1),(1,mV 35 5),(2,fD 36 0 1),(3,lD 37 1 36),(4,mV 38 5),(5,oP 39 (.iad 10 (.t 37) (.t 38))),(6,fD 40 6 39),(7,lD 41 1 40),(8,oP 42 (.build [i0,i0,i0,i0,i0,i0,i0,i0,i0,i0,s0] [(0,(1,cI 1)),(1,(1,.t 35)),(2,(1,.t 41)),(3,(1,cI 24))])),(9,oP 43 (.call 57 [.t 34,.t 42])),(10,mV 33 43),(11,eX 44 33 0),(12,eX 45 33 1),(13,oP 6 (.alloc 65 [i0,i0,i0,i0,i0,i0,s0])),(14,nP (.sto 7 (.t 6) (.t 44))),(15,mV 7 45)]) (sR [lA 46 4 1,lA 47 7 6,mV 48 7,oP 49 (.call 196 [.t 46,.t 47,.t 48]),nP (.sto 4 (.t 1) (.t 49))] (.seq (.drw [0,0,0,4,0,28,60,124,254,511,1023,2047,2047,0,12287,32767] [(0,lA 51 4 1),(1,mV 52 5),(2,fD 53 0 1),(3,lD 54 1 53),(4,mV 55 5),(5,oP 56 (.iad 10 (.t 54) (.t 55))),(6,fD 57 7 56),(7,lD 58 1 57),(8,oP 59 (.build [i0,i0,i0,i0,i0,i0,i0,i0,i0,i0,s0] [(0,(1,cI 2)),(1,(1,.t 52)),(2,(1,.t 58)),(3,(1,cI 24))])),(9,oP 60 (.call 57 [.t 51,.t 59])),(10,mV 50 60),(11,eX 61 50 0),(12,eX 62 50 1),(13,oP 8 (.alloc 65 [i0,i0,i0,i0,i0,i0,s0])),(14,nP (.sto 7 (.t 8) (.t 61))),(15,mV 9 62)]) (.reg [lA 63 4 1,lA 64 7 8,mV 65 9,oP 66 (.call 196 [.t 63,.t 64,.t 65]),nP (.sto 4 (.t 1) (.t 66))]))))) (.reg [mV 31 5,oP 32 (.bin .add (.t 31) (cI 1)),mV 5 32])))))) (sR [lA 67 4 1,nP (.sto 4 (.t 2) (.t 67))] .ret)))))
theorem dg159:Dg Tryz.prog 159 Tryz.f159 j0e [(.cell 2 4 true)]:=⟨Tryz.func159,by kernel_rfl,by kernel_rfl⟩
set_option maxHeartbeats 1000000 in
theorem x159 {X:List (E×E)} (w:M.World) (hw:WX X w):FnP Tryz.prog G 159 0 [.arr 69 10 (w.convs.map Conv.row),.arr 145 3 (w.door.map.map Pair.row),.arr 169 8 (w.door.flows.map Flw.row),.arr 65 7 (w.nets.map Pk.row)] [.agg [.own 0 w.convs.length,.own 1 w.door.map.length,.own 2 w.door.flows.length,.own 3 w.nets.length]] (q6p (M.round w)):=by
 refine mP dg159 Tryz.ntmps159 ⟨_,_,rfl,rfl⟩ ?_
 have hnl:=hw.nl
 have hcl:=hw.cl
 simp only[j0e,go_sem]
 with_reducible repeat' (first|refine br ?_ ?_<;>intro h e<;>(try simp only[e,go_sem])<;>clear e|rw[q01 (by omega)]|refine sd ?_<;>try simp only[go_sem]|fail)
 refine q0v (λa:Nat×M.World=>⟨q0i [(1,.pv 1001 0),(2,.pv 1002 0),(3,.own 3 w.nets.length),(4,.int .i64 (a.1:Int))],q0c [(1001,.var 33 [.own 0 a.2.convs.length,.own 1 a.2.door.map.length,.own 2 a.2.door.flows.length,.own 1012 a.2.nets.length]),(1002,.var 33 [.nils,.nils,.nils,.nils]),(0,.arr 69 10 (a.2.convs.map Conv.row)),(1,.arr 145 3 (a.2.door.map.map Pair.row)),(2,.arr 169 8 (a.2.door.flows.map Flw.row)),(1012,.arr 65 7 (a.2.nets.map Pk.row)),(3,.arr 65 7 (w.nets.map Pk.row))]⟩)
  (λa=>w.nets.length - a.1) (λa=>a.1≤w.nets.length∧WX X a.2∧Ext w a.2∧w.nets.foldl (λw p=>through 4 w (some p)) { w with nets:=[] }=(w.nets.drop a.1).foldl (λw p=>through 4 w (some p)) a.2) (0,{ w with nets:=[] }) (leQ []) ⟨Nat.zero_le _,hw.empty,.same rfl rfl,by simp⟩ ?_
 intro⟨k,v⟩ ⟨hk,hv,hx,he⟩
 simp only at hk hv hx he
 simp only[go_sem]
 by_cases h:(k:Int)<w.nets.length
 ·have hil:k<w.nets.length:=by omega
  have hg:w.nets.getD k default=w.nets[k]:=by simp[List.getD,hil]
  rw[List.drop_eq_getElem_cons hil,List.foldl_cons] at he
  have hnp:=(hw.net _ (List.getElem_mem hil)).ext hx
  generalize w.nets[k]=p at *
  simp only[eq_true h,go_sem]
  with_reducible repeat' (first|refine br ?_ ?_<;>intro h e<;>(try simp only[e,go_sem,q00 hil,hg])<;>clear e|rw[q01 (by omega)]|refine sd ?_<;>try simp only[go_sem,q00 hil,hg]|fail)
  refine q25 (x196 v p true hv (λ_=>hnp)) [0,1,2,1012] [] 25 4 (by simp only[go_sem];first|done|simp) (by simp only[go_sem];first|done|simp) (by simp) (by simp) (by rintro _ _ ⟨rfl,rfl⟩;simp) (by intro i hi;rcases(show i=0∨i=1∨i=2∨i=3 by omega) with rfl|rfl|rfl|rfl<;>simp only[go_sem]) ?_
  rintro _ _ ⟨rfl,rfl⟩
  rw[cond_true]
  simp only[go_sem]
  have hv':WX X (through 4 v (some p)):=hv.through 4 (λq hq=>by cases hq;exact hnp)
  have hx':=hx.trans (q15 4 v (some p))
  generalize through 4 v (some p)=v' at *
  with_reducible repeat' (first|rw[q01 (by omega)];try simp only[go_sem]|refine br ?_ ?_<;>intro h e<;>(try simp only[e,go_sem])<;>clear e|refine sd ?_<;>try simp only[go_sem]|fail)
  exact⟨(k+1,v'),by simp only;omega,⟨by simp only;omega,hv',hx',he⟩,(leQ [(0,102500),(1,102501),(2,102502),(1012,102503)])⟩
 simp only[eq_false h,go_sem]
 obtain rfl:k=w.nets.length:=by omega
 rw[List.drop_length,List.foldl_nil] at he
 have hrd:M.round w=(List.range v.convs.length).foldl sayRound v:=by rw[←he];rfl
 clear he hx h
 with_reducible repeat' (first|refine br ?_ ?_<;>intro h e<;>(try simp only[e,go_sem])<;>clear e|rw[q01 (by omega)]|refine sd ?_<;>try simp only[go_sem]|fail)
 have hvl:=hv.cl
 generalize hn:v.convs.length=n at *
 refine q0v (λa:Nat×M.World=>⟨q0i [(1,.pv 1001 0),(2,.pv 1002 0),(5,.int .i64 (a.1:Int))],q0c [(1001,.var 33 [.own 0 a.2.convs.length,.own 1 a.2.door.map.length,.own 2 a.2.door.flows.length,.own 1012 a.2.nets.length]),(1002,.var 33 [.nils,.nils,.nils,.nils]),(0,.arr 69 10 (a.2.convs.map Conv.row)),(1,.arr 145 3 (a.2.door.map.map Pair.row)),(2,.arr 169 8 (a.2.door.flows.map Flw.row)),(1012,.arr 65 7 (a.2.nets.map Pk.row))]⟩)
  (λa=>n - a.1) (λa=>a.1≤n∧WX X a.2∧a.2.convs.length=n∧M.round w=((List.range n).drop a.1).foldl sayRound a.2) (0,v) (by rw[←hn];exact(leQ [])) ⟨Nat.zero_le _,hv,hn,by simpa using hrd⟩ ?_
 clear hrd hv hn v
 intro⟨k,v⟩ ⟨hk,hv,hn,he⟩
 simp only at hk hv hn he
 simp only[go_sem]
 by_cases h:(k:Int)<v.convs.length
 ·have hil:k<v.convs.length:=by omega
  have hg:v.convs.getD k default=v.convs[k]:=by simp[List.getD,hil]
  have hg2:=zE hil
  have hB:∀(u:M.World),WX X u→∀c∈u.convs,c.up.length≤2000000∧c.down.length≤2000000:=λu hu c hc=>by
   have hb:=q20 (hu.cv c hc)
   have h1:=hb.up
   have h2:=hb.down
   omega
  have hM:∀(u:M.World),WX X u→u.door.map.length≤2000000:=λu hu=>by have:=(q0d (q07.1 hu.door).1).2;omega
  have hcm:=List.getElem_mem hil
  rw[qg8 (by omega),List.foldl_cons] at he
  generalize v.convs[k]=c at *
  have fs:=c57 v ⟨1,k,c.upAck,24,.zero⟩ (hM v hv) (by omega) (hB v hv)
  have hsn:∀p,say c true 0 c.upAck 24=some p→NetX X v.convs p:=λp hp=>(q2x hcm (hv.cv c hcm) hp).x
  rw[show decide ((1:Int)=1)=true from rfl,(qpj v hg2).1] at fs
  generalize ho:say c true 0 c.upAck 24=o at *
  obtain⟨pfs,hpfs⟩:∃pfs,pfs=o.getD .zero:=⟨_,rfl⟩
  rw[←hpfs] at fs
  simp only[Pk.zero,E.zero] at fs
  simp only[eq_true h,go_sem]
  with_reducible repeat' (first|refine br ?_ ?_<;>intro h e<;>(try simp only[e,go_sem,q00 hil,hg])<;>clear e|rw[q01 (by omega)]|refine sd ?_<;>try simp only[go_sem,q00 hil,hg]|fail)
  refine q2p fs [0,1,2,1012] false (by simp only[go_sem];first|done|simp[E.row,Pc.row,Pair.row,Part.row,Flw.row,Pk.row,Conv.row]) (by simp only[List.mem_cons,List.not_mem_nil,or_false];rintro c (rfl|rfl|rfl|rfl)<;>simp only[go_sem]) rfl (.inr rfl) ?_
  simp only[go_sem]
  with_reducible repeat' (first|refine br ?_ ?_<;>intro h e<;>(try simp only[e,go_sem])<;>clear e|rw[q01 (by omega)]|refine sd ?_<;>try simp only[go_sem]|fail)
  refine q25 (x196 v pfs o.isSome hv (λhb=>hsn _ (by rw[hpfs];cases o with|none=>cases hb|some y=>rfl))) [0,1,2,1012] [] 49 4 (by simp only[go_sem];first|done|simp) (by simp only[go_sem];first|done|simp) (by simp) (by simp) (by rintro _ _ ⟨rfl,rfl⟩;simp) (by intro i hi;rcases(show i=0∨i=1∨i=2∨i=3 by omega) with rfl|rfl|rfl|rfl<;>simp only[go_sem]) ?_
  rw[hpfs,qgn]
  rintro _ _ ⟨rfl,rfl⟩
  simp only[go_sem]
  obtain⟨v1,hv1⟩:∃v1,v1=through 4 v o:=⟨_,rfl⟩
  rw[←hv1]
  have hw1:WX X v1:=by rw[hv1];exact hv.through 4 hsn
  have hx1:Ext v v1:=by rw[hv1];exact q15 4 _ _
  have hil1:k<v1.convs.length:=by rw[hx1.len];exact hil
  have hg1:v1.convs.getD k default=v1.convs[k]:=by simp[List.getD,hil1]
  have hg3:=zE hil1
  have hcm1:=List.getElem_mem hil1
  have hcl1:=hw1.cl
  generalize v1.convs[k]=c1 at *
  have fs1:=c57 v1 ⟨2,k,c1.downAck,24,.zero⟩ (hM v1 hw1) (by omega) (hB v1 hw1)
  have hsn1:∀p,say c1 false (portOf v1.door.map c1.ins) c1.downAck 24=some p→NetX X v1.convs p:=λp hp=>(q2x hcm1 (hw1.cv c1 hcm1) hp).x
  rw[show decide ((2:Int)=1)=false from rfl,(qpj v1 hg3).2] at fs1
  generalize ho1:say c1 false (portOf v1.door.map c1.ins) c1.downAck 24=o1 at *
  have hse:=qa7 hg2 ho hv1 hg3 ho1
  obtain⟨pfs1,hpfs1⟩:∃pfs1,pfs1=o1.getD .zero:=⟨_,rfl⟩
  rw[←hpfs1] at fs1
  simp only[Pk.zero,E.zero] at fs1
  with_reducible repeat' (first|refine br ?_ ?_<;>intro h e<;>(try simp only[e,go_sem,q00 hil1,hg1])<;>clear e|rw[q01 (by omega)]|refine sd ?_<;>try simp only[go_sem,q00 hil1,hg1]|fail)
  refine q2p fs1 [104900,104901,104902,104903] false (by simp only[go_sem];first|done|simp[E.row,Pc.row,Pair.row,Part.row,Flw.row,Pk.row,Conv.row]) (by simp only[List.mem_cons,List.not_mem_nil,or_false];rintro c (rfl|rfl|rfl|rfl)<;>simp only[go_sem]) rfl (.inr rfl) ?_
  simp only[go_sem]
  with_reducible repeat' (first|refine br ?_ ?_<;>intro h e<;>(try simp only[e,go_sem])<;>clear e|rw[q01 (by omega)]|refine sd ?_<;>try simp only[go_sem]|fail)
  refine q25 (x196 v1 pfs1 o1.isSome hw1 (λhb=>hsn1 _ (by rw[hpfs1];cases o1 with|none=>cases hb|some y=>rfl))) [104900,104901,104902,104903] [] 66 4 (by simp only[go_sem];first|done|simp) (by simp only[go_sem];first|done|simp) (by simp) (by simp) (by rintro _ _ ⟨rfl,rfl⟩;simp) (by intro i hi;rcases(show i=0∨i=1∨i=2∨i=3 by omega) with rfl|rfl|rfl|rfl<;>simp only[go_sem]) ?_
  rw[hpfs1,qgn]
  rintro _ _ ⟨rfl,rfl⟩
  simp only[go_sem]
  rw[hse] at he
  have hw2:WX X (through 4 v1 o1):=hw1.through 4 hsn1
  have hl2:=(q15 4 v1 o1).len
  generalize through 4 v1 o1=v2 at *
  with_reducible repeat' (first|rw[q01 (by omega)];try simp only[go_sem]|refine br ?_ ?_<;>intro h e<;>(try simp only[e,go_sem])<;>clear e|refine sd ?_<;>try simp only[go_sem]|fail)
  exact⟨(k+1,v2),by simp only;omega,⟨by simp only;omega,hw2,by simp only;rw[hl2,hx1.len,hn],he⟩,(leQ [(0,106600),(1,106601),(2,106602),(1012,106603)])⟩
 ·simp only[eq_false h,go_sem]
  obtain rfl:k=n:=by omega
  rw[show(List.range k).drop k=[] by simp,List.foldl_nil] at he
  rw[he]
  with_reducible repeat' (first|refine br ?_ ?_<;>intro h e<;>(try simp only[e,go_sem])<;>clear e|rw[q01 (by omega)]|refine sd ?_<;>try simp only[go_sem]|fail)
  exact q1e (d:=2) (c:=1002) 0 1 2 1012 (by simp only[go_sem]) (by simp only[go_sem]) (by simp only[go_sem]) (by simp only[go_sem]) (by simp only[go_sem]) (by simp only[go_sem]) (by decide)
def qwo:IC:=sR [oP 2 (.box 33 (.t 0)),oP 4 (.alloc 33 [.nils,.nils,.nils,.nils])] (.seq (sR [lA 7 4 2,oP 8 (.call 157 [.t 7]),oP 9 (.un .not (.t 8)),mV 10 9,gF 11 10 (.mv (.t 1)),gF 12 10 (.call 114 [.t 11,.c i0,cI 6]),gF 13 10 (.un .not (.t 12)),pT 14 10 13] (cD 14 (sR [oP 15 (.build [.nils,.nils,.nils,.nils] []),nP (.sto 4 (.t 4) (.t 15))] .ret) .skip)) (sR [lA 16 4 2,oP 17 (.call 158 [.t 16]),oP 5 (.alloc 33 [.nils,.nils,.nils,.nils]),nP (.sto 4 (.t 5) (.t 17))] (.seq (sR [oP 6 (.mv (.c i0))] (.block 0 (.loop (.seq (sR [mV 18 6,mV 19 1,bN 20 .lss 18 19] (cD 20 .skip (.exit 0))) (.seq (.block 1 (.reg [lA 23 4 5,oP 24 (.call 159 [.t 23]),nP (.sto 4 (.t 5) (.t 24))])) (.reg [mV 21 6,oP 22 (.bin .add (.t 21) (cI 1)),mV 6 22])))))) (sR [lA 25 4 5,nP (.sto 4 (.t 4) (.t 25))] .ret))))
theorem dg108:Dg Tryz.prog 108 Tryz.f108 qwo [(.cell 4 4 true)]:=⟨Tryz.func108,by kernel_rfl,by kernel_rfl⟩
theorem qb3 (t:B):∃h r,q0a 32 t=h::r:=by
 cases h:q0a 32 t with
 | nil=>exact absurd h (q36 32 t)
 | cons a b=>exact⟨a,b,rfl⟩
theorem o108 {X:List (E×E)} (w:M.World) (hx:WX X w) (hok:q5c w=true):FnP Tryz.prog G 108 0 [] [.agg [.sl 10 (w.convs.map Conv.row),.sl 3 (w.door.map.map Pair.row),.sl 8 (w.door.flows.map Flw.row),.sl 7 (w.nets.map Pk.row)],.int .i64 1] (q6p (M.round w)):=by
 refine mP dg108 Tryz.ntmps108 ⟨_,_,rfl,rfl⟩ ?_
 have f1:=c157 w (wx_ws hx)
 have f2:FnR Tryz.prog G 114 [.int .i64 1,.int .i64 0,.int .i64 6] (.bool true):=qc3 1 0 6
 rw[hok] at f1
 simp only[qwo,go_sem]
 with_reducible repeat' (first|refine br ?_ ?_<;>intro h e<;>(try simp only[e,go_sem])<;>clear e|rw[q01 (by omega)]|refine sd ?_<;>try simp only[go_sem]|(first|refine cr (f1 ..) ?_|refine cr (f2 ..) ?_)<;>try simp only[go_sem]|fail)
 refine q5b (c158 w hx) [] 17 4 (by simp only[go_sem];first|done|simp) (by simp) (by rintro _ _ ⟨rfl,rfl⟩;simp) (by intro i hi;rcases(show i=0∨i=1∨i=2∨i=3 by omega) with rfl|rfl|rfl|rfl<;>simp only[go_sem]) ?_
 rintro _ _ ⟨rfl,rfl⟩
 simp only[go_sem]
 with_reducible repeat' (first|refine br ?_ ?_<;>intro h e<;>(try simp only[e,go_sem])<;>clear e|rw[q01 (by omega)]|refine sd ?_<;>try simp only[go_sem]|fail)
 refine q0v (λa:Nat×M.World=>⟨q0i [(1,.int .i64 1),(4,.pv 1004 0),(5,.pv 1005 0),(6,.int .i64 (a.1:Int))],q0c [(1004,.var 33 [.nils,.nils,.nils,.nils]),(1005,.var 33 [.own 101700 a.2.convs.length,.own 101701 a.2.door.map.length,.own 101702 a.2.door.flows.length,.own 101703 a.2.nets.length]),(101700,.arr 69 10 (a.2.convs.map Conv.row)),(101701,.arr 145 3 (a.2.door.map.map Pair.row)),(101702,.arr 169 8 (a.2.door.flows.map Flw.row)),(101703,.arr 65 7 (a.2.nets.map Pk.row))]⟩)
  (λa=>1 - a.1) (λa=>a.1≤1∧WX X a.2∧rounds 1 w=rounds (1 - a.1) a.2) (0,w) (leQ []) ⟨Nat.zero_le _,hx,rfl⟩ ?_
 intro⟨k,v⟩ ⟨hk,hv,he⟩
 simp only at hk hv he
 simp only[go_sem]
 by_cases h:(k:Int)<1
 ·rw[show 1 - k=(1 - (k+1))+1 by omega] at he
  simp only[eq_true h,go_sem]
  with_reducible repeat' (first|refine br ?_ ?_<;>intro h e<;>(try simp only[e,go_sem])<;>clear e|rw[q01 (by omega)]|refine sd ?_<;>try simp only[go_sem]|fail)
  refine q25 (x159 v hv) [101700,101701,101702,101703] [] 24 4 (by simp only[go_sem];first|done|simp) (by simp only[go_sem];first|done|simp) (by simp) (by simp) (by rintro _ _ ⟨rfl,rfl⟩;simp) (by intro i hi;rcases(show i=0∨i=1∨i=2∨i=3 by omega) with rfl|rfl|rfl|rfl<;>simp only[go_sem]) ?_
  rintro _ _ ⟨rfl,rfl⟩
  simp only[go_sem]
  have hv2:=hv.round
  rw[show rounds (1 - (k+1)+1) v=rounds (1 - (k+1)) (M.round v) from rfl] at he
  generalize M.round v=v2 at *
  with_reducible repeat' (first|rw[q01 (by omega)];try simp only[go_sem]|refine br ?_ ?_<;>intro h e<;>(try simp only[e,go_sem])<;>clear e|refine sd ?_<;>try simp only[go_sem]|fail)
  exact⟨(k+1,v2),by simp only;omega,⟨by simp only;omega,hv2,he⟩,(leQ [(101700,102400),(101701,102401),(101702,102402),(101703,102403)])⟩
 ·simp only[eq_false h,go_sem]
  obtain rfl:k=1:=by omega
  rw[show rounds 1 w=M.round w from rfl,show rounds (1 - 1) v=v from rfl] at he
  rw[he]
  with_reducible repeat' (first|refine br ?_ ?_<;>intro h e<;>(try simp only[e,go_sem])<;>clear e|rw[q01 (by omega)]|refine sd ?_<;>try simp only[go_sem]|fail)
  exact q1e (d:=4) (c:=1004) 101700 101701 101702 101703 (by simp only[go_sem]) (by simp only[go_sem]) (by simp only[go_sem]) (by simp only[go_sem]) (by simp only[go_sem]) (by simp only[go_sem]) (by decide)
theorem endB {c:Conv} (h:convOk c=true):(0≤c.upAck∧c.upAck<100)∧(0≤c.downAck∧c.downAck<100)∧c.upGot.length≤200∧c.downGot.length≤200:=by
 have hb:=q20 h
 have h1:=hb.up;have h2:=hb.down;have h3:=hb.upGot;have h4:=hb.downGot;have h5:=hb.upAck;have h6:=hb.downAck
 omega
def ic53:IC:=sR [oP 1 (.box 33 (.t 0)),oP 2 (.mv (.c s0))] (sR [fD 4 0 1,lD 5 1 4,oP 6 (.iad 10 (.t 5) (.c i0)),lA 7 10 6,oP 3 (.alloc 69 [i0,i0,i0,i0,s0,s0,i0,i0,s0,s0]),nP (.sto 10 (.t 3) (.t 7))] (.seq (.drw [0,1,3,7,15,0,32,127,255,0,512,1543,4095,8191,0,16384,65535,131071,262143] [(0,fD 8 6 3),(1,lD 9 1 8),(2,oP 10 (.call 89 [.t 9])),(3,oP 11 (.bin .add (.c (.str [117,112,32])) (.t 10))),(4,oP 12 (.bin .add (.t 11) (.c (.str [32])))),(5,fD 13 8 3),(6,lD 14 1 13),(7,bN 15 .add 12 14),(8,oP 16 (.bin .add (.t 15) (.c (.str [10,100,111,119,110,32])))),(9,fD 17 7 3),(10,lD 18 1 17),(11,oP 19 (.call 89 [.t 18])),(12,bN 20 .add 16 19),(13,oP 21 (.bin .add (.t 20) (.c (.str [32])))),(14,fD 22 9 3),(15,lD 23 1 22),(16,bN 24 .add 21 23),(17,oP 25 (.bin .add (.t 24) (.c (.str [10])))),(18,mV 2 25)]) .ret))
theorem dg53:Dg Tryz.prog 53 Tryz.f53 ic53 [(.t 2)]:=⟨Tryz.func53,by kernel_rfl,by kernel_rfl⟩
theorem c53 (w:M.World) (c:Conv) (hc:w.convs=[c]) (hok:convOk c=true):FnR Tryz.prog G 53 [.agg [.sl 10 (w.convs.map Conv.row),.sl 3 (w.door.map.map Pair.row),.sl 8 (w.door.flows.map Flw.row),.sl 7 (w.nets.map Pk.row)]] (.str (q2g w)):=by
 refine mF dg53 Tryz.ntmps53 ?_
 obtain⟨h1,h2,h3,h4⟩:=endB hok
 have f1:=c89 c.upAck h1
 have f2:=c89 c.downAck h2
 have l1:=q13 c.upAck
 have l2:=q13 c.downAck
 have e:q2g w=[117,112,32]++(dec c.upAck++(32::(c.upGot++(10::([100,111,119,110,32]++(dec c.downAck++(32::(c.downGot++[10])))))))):=by simp only[q2g,hc]
 rw[e,hc]
 generalize dec c.upAck=x at *
 generalize dec c.downAck=y at *
 simp only[ic53,go_sem,q02,zC,zN]
 with_reducible repeat' (first|refine br ?_ ?_<;>intro h e<;>(try simp only[e,go_sem,q02,zA,zC,zN,zZ,zP,zU])<;>clear e|rw[q01 (by omega)]|refine sd ?_<;>try simp only[go_sem,q02,zA,zC,zN,zZ,zP,zU]|(first|refine cr (f1 ..) ?_|refine cr (f2 ..) ?_)<;>try simp only[go_sem,q02,zA,zC,zN,zZ,zP,zU]|fail)
 all_goals first|done|(simp;done)|skip
theorem q9t {α:Type} (l:List α) (f:α→B) (k:Nat) (h:k<l.length):q2b ((l.take (k+1)).map f)=q2b ((l.take k).map f)++(f l[k]++[10]):=by
 rw[List.take_add_one,zE h,List.map_append,qcd]
 simp only[Option.toList_some,List.map_cons,List.map_nil]
 rw[show q2b [f l[k]]=f l[k]++[10] by simp[q2b]]
def qz4 (x:M.World×B) (r:V) (out:List Hs):Prop:=r=.tup [.agg [.own 0 x.1.convs.length,.own 1 x.1.door.map.length,.own 2 x.1.door.flows.length,.own 3 x.1.nets.length],.str x.2]∧out=[.arr 69 10 (x.1.convs.map Conv.row),.arr 145 3 (x.1.door.map.map Pair.row),.arr 169 8 (x.1.door.flows.map Flw.row),.arr 65 7 (x.1.nets.map Pk.row)]
theorem q40 {x:M.World×B} {w:M.World} {s:B} {l:List (Nat×V)} {mm:List (Nat×Hs)} (n0 n1 n2 n3:Nat) (hx:x=(w,s)) (h4:q0i l 4=.pv 1004 0) (h5:q0i l 5=.str s)
 (m4:q0c mm 1004=.var 33 [.own n0 w.convs.length,.own n1 w.door.map.length,.own n2 w.door.flows.length,.own n3 w.nets.length])
 (m0:q0c mm n0=.arr 69 10 (w.convs.map Conv.row)) (m1:q0c mm n1=.arr 145 3 (w.door.map.map Pair.row)) (m2:q0c mm n2=.arr 169 8 (w.door.flows.map Flw.row)) (m3:q0c mm n3=.arr 65 7 (w.nets.map Pk.row))
 (hne:[n0,n1,n2,n3].Nodup):q59 [.cell 4 4 true,.t 5] 0 (qz4 x) .ret ⟨q0i l,q0c mm⟩:=by
 subst hx
 refine q1m (.tup [.agg [.own 0 w.convs.length,.own 1 w.door.map.length,.own 2 w.door.flows.length,.own 3 w.nets.length],.str s]) [.arr 69 10 (w.convs.map Conv.row),.arr 145 3 (w.door.map.map Pair.row),.arr 169 8 (w.door.flows.map Flw.row),.arr 65 7 (w.nets.map Pk.row)] [(0,n0),(1,n1),(2,n2),(3,n3)] ?_ ⟨rfl,rfl⟩ ?_ (by simpa[q1c,q0o] using hne) (by simp only[go_sem])
 ·simp only[go_sem,h4,h5,m4]
 ·simp only[go_sem,m0,m1,m2,m3]
theorem qf0 (w:M.World):wDo w ⟨6,0,0,0,.zero⟩=w:=by
 have:stranger w .zero=false:=by
  have:q48 .zero=false:=by decide
  simp[stranger,this]
 simp[wDo,this]
theorem qbl (w:M.World) (line:B) {h:B} {r:List B} (hc:q0a 32 line=h::r):q23 w line =
 (if h=[117,112] then(wDo w ⟨1,0,q1l (h::r) 1,q1l (h::r) 2,.zero⟩,[])
 else if h=[100,111,119,110] then(wDo w ⟨2,0,q1l (h::r) 1,q1l (h::r) 2,.zero⟩,[])
 else if h=[98,114,105,110,103] then(wDo w ⟨3,q1l (h::r) 1,0,0,.zero⟩,[])
 else if h=[108,111,115,101] then(wDo w ⟨4,q1l (h::r) 1,0,0,.zero⟩,[])
 else if h=[116,119,105,99,101] then(wDo w ⟨5,q1l (h::r) 1,0,0,.zero⟩,[])
 else if h=[102,111,114,103,101] then(wDo w ⟨6,0,0,0,(q14 (line.drop 6)).getD .zero⟩,[])
 else if h=[99,97,108,109] then(M.round w,[])
 else if h=[109,97,112] then(w,q2b (w.door.map.map λp=>dec p.port++(32::p.ins.text))++(q7h w.door.map.length++[10]))
 else if h=[110,101,116,115] then(w,q2b (w.nets.map q0f)++(q7h w.nets.length++[10]))
 else(w,[119,104,97,116,10])):=by
 unfold q23
 simp only[hc,List.headD_cons]
 cases hp:q14 (line.drop 6) with
 | some p=>rfl
 | none=>simp only[Option.getD_none,qf0]
theorem qd8 {t:B} {p:Pk} (h:q14 t=some p) (hl:t.length≤100000):((q14 t).getD .zero).text.length≤100:=by
 obtain⟨e,hl2⟩:=qa8 h
 rw[h,Option.getD_some]
 by_cases ht:t=[]
 ·subst ht
  simp[q14,q0a] at h
 ·have:=(qk4 (q9w e ht)).len
  omega
theorem qa0 (t:B) (hl:t.length≤100000):((q14 t).getD .zero).text.length≤100:=by
 cases h:q14 t with
 | none=>simp[Pk.zero]
 | some p =>
   have:=qd8 h hl
   rwa [h] at this
def qkg:IC:=sR [oP 2 (.box 33 (.t 0)),oP 4 (.alloc 33 [.nils,.nils,.nils,.nils]),oP 5 (.mv (.c s0))] (sR [mV 14 1,oP 15 (.call 51 [.t 14,.c (.int .u8 32)]),mV 6 15] (sR [mV 16 6,oP 17 (.call 106 [.t 16,cI 1]),mV 18 6,oP 19 (.call 106 [.t 18,cI 2]),oP 20 (.build [i0,i0,i0,i0,i0,i0,i0,i0,i0,i0,s0] [(2,(1,.t 17)),(3,(1,.t 19))]),oP 7 (.alloc 67 [i0,i0,i0,i0,i0,i0,i0,i0,i0,i0,s0]),nP (.sto 11 (.t 7) (.t 20))] (.seq (sR [mV 21 6,oP 22 (.iad 1 (.t 21) (.c i0)),lD 23 1 22] (.block 0 (sR [oP 26 (.bin .eql (.t 23) (.c (.str [117,112]))),mV 25 26] (cD 25 (.reg [fD 27 0 7,nP (.sto 1 (.t 27) (cI 1))]) (sR [oP 29 (.bin .eql (.t 23) (.c (.str [100,111,119,110]))),mV 28 29] (cD 28 (.reg [fD 30 0 7,nP (.sto 1 (.t 30) (cI 2))]) (sR [oP 32 (.bin .eql (.t 23) (.c (.str [98,114,105,110,103]))),mV 31 32] (cD 31 (.reg [mV 33 6,oP 34 (.call 106 [.t 33,cI 1]),oP 35 (.build [i0,i0,i0,i0,i0,i0,i0,i0,i0,i0,s0] [(0,(1,cI 3)),(1,(1,.t 34))]),nP (.sto 11 (.t 7) (.t 35))]) (sR [oP 37 (.bin .eql (.t 23) (.c (.str [108,111,115,101]))),mV 36 37] (cD 36 (.reg [mV 38 6,oP 39 (.call 106 [.t 38,cI 1]),oP 40 (.build [i0,i0,i0,i0,i0,i0,i0,i0,i0,i0,s0] [(0,(1,cI 4)),(1,(1,.t 39))]),nP (.sto 11 (.t 7) (.t 40))]) (sR [oP 42 (.bin .eql (.t 23) (.c (.str [116,119,105,99,101]))),mV 41 42] (cD 41 (.reg [mV 43 6,oP 44 (.call 106 [.t 43,cI 1]),oP 45 (.build [i0,i0,i0,i0,i0,i0,i0,i0,i0,i0,s0] [(0,(1,cI 5)),(1,(1,.t 44))]),nP (.sto 11 (.t 7) (.t 45))]) (sR [oP 47 (.bin .eql (.t 23) (.c (.str [102,111,114,103,101]))),mV 46 47] (cD 46 (sR [mV 49 1,mV 50 1,oP 51 (.lens (.t 50)),oP 52 (.mn (.t 51) (cI 6)),oP 53 (.sls (.t 49) (some (.t 52)) none),oP 54 (.call 107 [.t 53]),mV 48 54,eX 55 48 0,eX 56 48 1,oP 8 (.alloc 65 [i0,i0,i0,i0,i0,i0,s0]),nP (.sto 7 (.t 8) (.t 55)),mV 9 56] (.reg [lA 57 7 8,oP 58 (.build [i0,i0,i0,i0,i0,i0,i0,i0,i0,i0,s0] [(0,(1,cI 6)),(4,(7,.t 57))]),nP (.sto 11 (.t 7) (.t 58))])) (sR [oP 60 (.bin .eql (.t 23) (.c (.str [99,97,108,109]))),mV 59 60] (cD 59 (sR [lA 61 4 2,oP 62 (.call 108 [.t 61,cI 1]),nP (.sto 4 (.t 4) (.t 62)),oP 5 (.mv (.c s0))] .ret) (sR [oP 64 (.bin .eql (.t 23) (.c (.str [109,97,112]))),mV 63 64] (cD 63 (sR [oP 10 (.mv (.c s0))] (.seq (sR [oP 11 (.mv (.c i0))] (.block 1 (.loop (.seq (sR [mV 65 11,fD 66 1 2,fD 67 0 66,lD 68 1 67,oP 69 (.len (.t 68)),bN 70 .lss 65 69] (cD 70 .skip (.exit 1))) (.seq (.block 2 (.drw [0,0,2,6,0,30,62,126,254,511,1023,0,2048,6144,0,30720,63488,129024,260606,524287,1048575,2097151] [(0,mV 73 10),(1,fD 74 1 2),(2,fD 75 0 74),(3,lD 76 1 75),(4,mV 77 11),(5,oP 78 (.iad 3 (.t 76) (.t 77))),(6,fD 79 0 78),(7,lD 80 1 79),(8,oP 81 (.call 89 [.t 80])),(9,bN 82 .add 73 81),(10,oP 83 (.bin .add (.t 82) (.c (.str [32])))),(11,fD 84 1 2),(12,fD 85 0 84),(13,lD 86 1 85),(14,mV 87 11),(15,oP 88 (.iad 3 (.t 86) (.t 87))),(16,fD 89 1 88),(17,lA 90 2 89),(18,oP 91 (.call 92 [.t 90])),(19,bN 92 .add 83 91),(20,oP 93 (.bin .add (.t 92) (.c (.str [10])))),(21,mV 10 93)])) (.reg [mV 71 11,oP 72 (.bin .add (.t 71) (cI 1)),mV 11 72])))))) (.seq (.drw [0,0,0,4,12,28,60,126,254,125,1023] [(0,lA 94 4 2),(1,mV 95 10),(2,fD 96 1 2),(3,fD 97 0 96),(4,lD 98 1 97),(5,oP 99 (.len (.t 98))),(6,oP 100 (.call 89 [.t 99])),(7,bN 101 .add 95 100),(8,oP 102 (.bin .add (.t 101) (.c (.str [10])))),(9,nP (.sto 4 (.t 4) (.t 94))),(10,mV 5 102)]) .ret))) (sR [oP 104 (.bin .eql (.t 23) (.c (.str [110,101,116,115]))),mV 103 104] (cD 103 (sR [oP 12 (.mv (.c s0))] (.seq (sR [oP 13 (.mv (.c i0))] (.block 3 (.loop (.seq (sR [mV 105 13,fD 106 3 2,lD 107 1 106,oP 108 (.len (.t 107)),bN 109 .lss 105 108] (cD 109 .skip (.exit 3))) (.seq (.block 4 (.reg [mV 112 12,fD 113 3 2,lD 114 1 113,mV 115 13,oP 116 (.iad 7 (.t 114) (.t 115)),lA 117 7 116,oP 118 (.call 90 [.t 117]),bN 119 .add 112 118,oP 120 (.bin .add (.t 119) (.c (.str [10]))),mV 12 120])) (.reg [mV 110 13,oP 111 (.bin .add (.t 110) (cI 1)),mV 13 111])))))) (.seq (.drw [0,0,0,4,12,28,62,126,61,511] [(0,lA 121 4 2),(1,mV 122 12),(2,fD 123 3 2),(3,lD 124 1 123),(4,oP 125 (.len (.t 124))),(5,oP 126 (.call 89 [.t 125])),(6,bN 127 .add 122 126),(7,oP 128 (.bin .add (.t 127) (.c (.str [10])))),(8,nP (.sto 4 (.t 4) (.t 121))),(9,mV 5 128)]) .ret))) (sR [lA 24 4 2,nP (.sto 4 (.t 4) (.t 24)),oP 5 (.mv (.c (.str [119,104,97,116,10])))] .ret))))))))))))))))))))) (sR [lA 129 4 2,lA 130 11 7,oP 131 (.call 24 [.t 129,.t 130]),nP (.sto 4 (.t 4) (.t 131)),oP 5 (.mv (.c s0))] .ret))))
theorem dg52:Dg Tryz.prog 52 Tryz.f52 qkg [(.cell 4 4 true),(.t 5)]:=⟨Tryz.func52,by kernel_rfl,by kernel_rfl⟩
set_option maxHeartbeats 8000000 in
theorem c52 (w:M.World) (line:B) (hw:WI w) (hok:q5c w=true) (hl:line.length≤1000):FnP Tryz.prog G 52 0 [.arr 69 10 (w.convs.map Conv.row),.arr 145 3 (w.door.map.map Pair.row),.arr 169 8 (w.door.flows.map Flw.row),.arr 65 7 (w.nets.map Pk.row)] [.agg [.own 0 w.convs.length,.own 1 w.door.map.length,.own 2 w.door.flows.length,.own 3 w.nets.length],.str line] (qz4 (q23 w line)):=by
 refine mP dg52 Tryz.ntmps52 ⟨_,_,rfl,rfl⟩ ?_
 have hnl:=hw.nl
 have hml:=(q0d (q07.1 hw.door).1).2
 have hmk:=(q07.1 hw.door).1
 have f1:=c51 line 32 (by omega)
 simp only[show((UInt8.toNat 32:Nat):Int)=32 from rfl] at f1
 have hln:=q3i 32 line
 have hmem:=q3h 32 line
 obtain⟨hd,r,hc⟩:=qb3 line
 have hL:=qbl w line hc
 rw[hc] at f1 hln hmem
 have f2:=c106 (hd::r) 1 (by omega) (λx hx=>by have:=hmem x hx;omega)
 have f3:=c106 (hd::r) 2 (by omega) (λx hx=>by have:=hmem x hx;omega)
 rw[hL]
 clear hL
 have hz0:0<(hd::r).length:=by simp
 have hg0:(hd::r).getD 0 default=hd:=rfl
 have hi0:((0:Int)<((hd::r).length:Int))=True:=eq_true (by simp only[zC];omega)
 generalize hws:hd::r=ws at *
 generalize hw1:q1l ws 1=a at *
 generalize hw2:q1l ws 2=b at *
 simp only[show(((1:Nat):Int))=1 from rfl] at f2
 simp only[show(((2:Nat):Int))=2 from rfl] at f3
 by_cases h0:hd=[117,112]
 ·rw[if_pos h0]
  simp only[qkg,go_sem]
  with_reducible repeat' (first|refine br ?_ ?_<;>intro h e<;>(try simp only[e,go_sem,eq_true h0,q00 hz0,hg0,Int.reduceToNat,hi0])<;>clear e|rw[q01 (by omega)]|refine sd ?_<;>try simp only[go_sem,eq_true h0,q00 hz0,hg0,Int.reduceToNat,hi0]|(first|refine cr (f1 ..) ?_|refine cr (f2 ..) ?_|refine cr (f3 ..) ?_)<;>try simp only[go_sem,eq_true h0,q00 hz0,hg0,Int.reduceToNat,hi0]|fail)
  refine q25 (c24 w ⟨1,0,a,b,.zero⟩ hw (by simp[Pk.zero])) [0,1,2,3] [] 131 4 (by simp only[go_sem,Pk.zero,E.zero];first|done|simp[Pk.zero,E.zero]) (by simp only[go_sem];first|done|simp) (by simp) (by simp) (by rintro _ _ ⟨rfl,rfl⟩;simp) (by intro i hi;rcases(show i=0∨i=1∨i=2∨i=3 by omega) with rfl|rfl|rfl|rfl<;>simp only[go_sem]) ?_
  rintro _ _ ⟨rfl,rfl⟩
  simp only[go_sem]
  with_reducible repeat' (first|refine br ?_ ?_<;>intro h e<;>(try simp only[e,go_sem])<;>clear e|rw[q01 (by omega)]|refine sd ?_<;>try simp only[go_sem]|fail)
  exact q40 113100 113101 113102 113103 rfl (by simp only[go_sem]) (by simp only[go_sem]) (by simp only[go_sem]) (by simp only[go_sem]) (by simp only[go_sem]) (by simp only[go_sem]) (by simp only[go_sem]) (by decide)
 rw[if_neg h0]
 have n0:=h0
 clear h0
 by_cases h1:hd=[100,111,119,110]
 ·rw[if_pos h1]
  simp only[qkg,go_sem]
  with_reducible repeat' (first|refine br ?_ ?_<;>intro h e<;>(try simp only[e,go_sem,eq_false n0,eq_true h1,q00 hz0,hg0,Int.reduceToNat,hi0])<;>clear e|rw[q01 (by omega)]|refine sd ?_<;>try simp only[go_sem,eq_false n0,eq_true h1,q00 hz0,hg0,Int.reduceToNat,hi0]|(first|refine cr (f1 ..) ?_|refine cr (f2 ..) ?_|refine cr (f3 ..) ?_)<;>try simp only[go_sem,eq_false n0,eq_true h1,q00 hz0,hg0,Int.reduceToNat,hi0]|fail)
  refine q25 (c24 w ⟨2,0,a,b,.zero⟩ hw (by simp[Pk.zero])) [0,1,2,3] [] 131 4 (by simp only[go_sem,Pk.zero,E.zero];first|done|simp[Pk.zero,E.zero]) (by simp only[go_sem];first|done|simp) (by simp) (by simp) (by rintro _ _ ⟨rfl,rfl⟩;simp) (by intro i hi;rcases(show i=0∨i=1∨i=2∨i=3 by omega) with rfl|rfl|rfl|rfl<;>simp only[go_sem]) ?_
  rintro _ _ ⟨rfl,rfl⟩
  simp only[go_sem]
  with_reducible repeat' (first|refine br ?_ ?_<;>intro h e<;>(try simp only[e,go_sem])<;>clear e|rw[q01 (by omega)]|refine sd ?_<;>try simp only[go_sem]|fail)
  exact q40 113100 113101 113102 113103 rfl (by simp only[go_sem]) (by simp only[go_sem]) (by simp only[go_sem]) (by simp only[go_sem]) (by simp only[go_sem]) (by simp only[go_sem]) (by simp only[go_sem]) (by decide)
 rw[if_neg h1]
 have n1:=h1
 clear h1
 by_cases h2:hd=[98,114,105,110,103]
 ·rw[if_pos h2]
  simp only[qkg,go_sem]
  with_reducible repeat' (first|refine br ?_ ?_<;>intro h e<;>(try simp only[e,go_sem,eq_false n0,eq_false n1,eq_true h2,q00 hz0,hg0,Int.reduceToNat,hi0])<;>clear e|rw[q01 (by omega)]|refine sd ?_<;>try simp only[go_sem,eq_false n0,eq_false n1,eq_true h2,q00 hz0,hg0,Int.reduceToNat,hi0]|(first|refine cr (f1 ..) ?_|refine cr (f2 ..) ?_|refine cr (f3 ..) ?_)<;>try simp only[go_sem,eq_false n0,eq_false n1,eq_true h2,q00 hz0,hg0,Int.reduceToNat,hi0]|fail)
  refine q25 (c24 w ⟨3,a,0,0,.zero⟩ hw (by simp[Pk.zero])) [0,1,2,3] [] 131 4 (by simp only[go_sem,Pk.zero,E.zero];first|done|simp[Pk.zero,E.zero]) (by simp only[go_sem];first|done|simp) (by simp) (by simp) (by rintro _ _ ⟨rfl,rfl⟩;simp) (by intro i hi;rcases(show i=0∨i=1∨i=2∨i=3 by omega) with rfl|rfl|rfl|rfl<;>simp only[go_sem]) ?_
  rintro _ _ ⟨rfl,rfl⟩
  simp only[go_sem]
  with_reducible repeat' (first|refine br ?_ ?_<;>intro h e<;>(try simp only[e,go_sem])<;>clear e|rw[q01 (by omega)]|refine sd ?_<;>try simp only[go_sem]|fail)
  exact q40 113100 113101 113102 113103 rfl (by simp only[go_sem]) (by simp only[go_sem]) (by simp only[go_sem]) (by simp only[go_sem]) (by simp only[go_sem]) (by simp only[go_sem]) (by simp only[go_sem]) (by decide)
 rw[if_neg h2]
 have n2:=h2
 clear h2
 by_cases h3:hd=[108,111,115,101]
 ·rw[if_pos h3]
  simp only[qkg,go_sem]
  with_reducible repeat' (first|refine br ?_ ?_<;>intro h e<;>(try simp only[e,go_sem,eq_false n0,eq_false n1,eq_false n2,eq_true h3,q00 hz0,hg0,Int.reduceToNat,hi0])<;>clear e|rw[q01 (by omega)]|refine sd ?_<;>try simp only[go_sem,eq_false n0,eq_false n1,eq_false n2,eq_true h3,q00 hz0,hg0,Int.reduceToNat,hi0]|(first|refine cr (f1 ..) ?_|refine cr (f2 ..) ?_|refine cr (f3 ..) ?_)<;>try simp only[go_sem,eq_false n0,eq_false n1,eq_false n2,eq_true h3,q00 hz0,hg0,Int.reduceToNat,hi0]|fail)
  refine q25 (c24 w ⟨4,a,0,0,.zero⟩ hw (by simp[Pk.zero])) [0,1,2,3] [] 131 4 (by simp only[go_sem,Pk.zero,E.zero];first|done|simp[Pk.zero,E.zero]) (by simp only[go_sem];first|done|simp) (by simp) (by simp) (by rintro _ _ ⟨rfl,rfl⟩;simp) (by intro i hi;rcases(show i=0∨i=1∨i=2∨i=3 by omega) with rfl|rfl|rfl|rfl<;>simp only[go_sem]) ?_
  rintro _ _ ⟨rfl,rfl⟩
  simp only[go_sem]
  with_reducible repeat' (first|refine br ?_ ?_<;>intro h e<;>(try simp only[e,go_sem])<;>clear e|rw[q01 (by omega)]|refine sd ?_<;>try simp only[go_sem]|fail)
  exact q40 113100 113101 113102 113103 rfl (by simp only[go_sem]) (by simp only[go_sem]) (by simp only[go_sem]) (by simp only[go_sem]) (by simp only[go_sem]) (by simp only[go_sem]) (by simp only[go_sem]) (by decide)
 rw[if_neg h3]
 have n3:=h3
 clear h3
 by_cases h4:hd=[116,119,105,99,101]
 ·rw[if_pos h4]
  simp only[qkg,go_sem]
  with_reducible repeat' (first|refine br ?_ ?_<;>intro h e<;>(try simp only[e,go_sem,eq_false n0,eq_false n1,eq_false n2,eq_false n3,eq_true h4,q00 hz0,hg0,Int.reduceToNat,hi0])<;>clear e|rw[q01 (by omega)]|refine sd ?_<;>try simp only[go_sem,eq_false n0,eq_false n1,eq_false n2,eq_false n3,eq_true h4,q00 hz0,hg0,Int.reduceToNat,hi0]|(first|refine cr (f1 ..) ?_|refine cr (f2 ..) ?_|refine cr (f3 ..) ?_)<;>try simp only[go_sem,eq_false n0,eq_false n1,eq_false n2,eq_false n3,eq_true h4,q00 hz0,hg0,Int.reduceToNat,hi0]|fail)
  refine q25 (c24 w ⟨5,a,0,0,.zero⟩ hw (by simp[Pk.zero])) [0,1,2,3] [] 131 4 (by simp only[go_sem,Pk.zero,E.zero];first|done|simp[Pk.zero,E.zero]) (by simp only[go_sem];first|done|simp) (by simp) (by simp) (by rintro _ _ ⟨rfl,rfl⟩;simp) (by intro i hi;rcases(show i=0∨i=1∨i=2∨i=3 by omega) with rfl|rfl|rfl|rfl<;>simp only[go_sem]) ?_
  rintro _ _ ⟨rfl,rfl⟩
  simp only[go_sem]
  with_reducible repeat' (first|refine br ?_ ?_<;>intro h e<;>(try simp only[e,go_sem])<;>clear e|rw[q01 (by omega)]|refine sd ?_<;>try simp only[go_sem]|fail)
  exact q40 113100 113101 113102 113103 rfl (by simp only[go_sem]) (by simp only[go_sem]) (by simp only[go_sem]) (by simp only[go_sem]) (by simp only[go_sem]) (by simp only[go_sem]) (by simp only[go_sem]) (by decide)
 rw[if_neg h4]
 have n4:=h4
 clear h4
 by_cases h5:hd=[102,111,114,103,101]
 ·rw[if_pos h5]
  simp only[qkg,go_sem]
  have f4:=c107 (line.drop 6) (by simp;omega)
  have hpt:=qa0 (line.drop 6) (by simp;omega)
  have hdr:line.drop (min line.length 6)=line.drop 6:=by
   rcases Nat.le_total line.length 6 with hle|hle
   ·rw[Nat.min_eq_left hle,List.drop_length,List.drop_eq_nil_of_le hle]
   ·rw[Nat.min_eq_right hle]
  have hmn:min (line.length:Int) 6=((min line.length 6:Nat):Int):=by omega
  obtain⟨p,hp⟩:∃p,p=(q14 (line.drop 6)).getD .zero:=⟨_,rfl⟩
  rw[←hp] at f4 hpt ⊢
  generalize (q14 (line.drop 6)).isSome=ok at *
  with_reducible repeat' (first|refine br ?_ ?_<;>intro h e<;>(try simp only[e,go_sem,eq_false n0,eq_false n1,eq_false n2,eq_false n3,eq_false n4,eq_true h5,q00 hz0,hg0,Int.reduceToNat,hi0,hmn,Int.toNat_natCast,List.take_length,hdr])<;>clear e|rw[q01 (by omega)]|refine sd ?_<;>try simp only[go_sem,eq_false n0,eq_false n1,eq_false n2,eq_false n3,eq_false n4,eq_true h5,q00 hz0,hg0,Int.reduceToNat,hi0,hmn,Int.toNat_natCast,List.take_length,hdr]|(first|refine cr (f1 ..) ?_|refine cr (f2 ..) ?_|refine cr (f3 ..) ?_|refine cr (f4 ..) ?_)<;>try simp only[go_sem,eq_false n0,eq_false n1,eq_false n2,eq_false n3,eq_false n4,eq_true h5,q00 hz0,hg0,Int.reduceToNat,hi0,hmn,Int.toNat_natCast,List.take_length,hdr]|fail)
  refine q25 (c24 w ⟨6,0,0,0,p⟩ hw (by simp only;omega)) [0,1,2,3] [] 131 4 (by simp only[go_sem];first|done|simp) (by simp only[go_sem];first|done|simp) (by simp) (by simp) (by rintro _ _ ⟨rfl,rfl⟩;simp) (by intro i hi;rcases(show i=0∨i=1∨i=2∨i=3 by omega) with rfl|rfl|rfl|rfl<;>simp only[go_sem]) ?_
  rintro _ _ ⟨rfl,rfl⟩
  simp only[go_sem]
  with_reducible repeat' (first|refine br ?_ ?_<;>intro h e<;>(try simp only[e,go_sem])<;>clear e|rw[q01 (by omega)]|refine sd ?_<;>try simp only[go_sem]|fail)
  exact q40 113100 113101 113102 113103 rfl (by simp only[go_sem]) (by simp only[go_sem]) (by simp only[go_sem]) (by simp only[go_sem]) (by simp only[go_sem]) (by simp only[go_sem]) (by simp only[go_sem]) (by decide)
 rw[if_neg h5]
 have n5:=h5
 clear h5
 by_cases h6:hd=[99,97,108,109]
 ·rw[if_pos h6]
  simp only[qkg,go_sem]
  with_reducible repeat' (first|refine br ?_ ?_<;>intro h e<;>(try simp only[e,go_sem,eq_false n0,eq_false n1,eq_false n2,eq_false n3,eq_false n4,eq_false n5,eq_true h6,q00 hz0,hg0,Int.reduceToNat,hi0])<;>clear e|rw[q01 (by omega)]|refine sd ?_<;>try simp only[go_sem,eq_false n0,eq_false n1,eq_false n2,eq_false n3,eq_false n4,eq_false n5,eq_true h6,q00 hz0,hg0,Int.reduceToNat,hi0]|(first|refine cr (f1 ..) ?_|refine cr (f2 ..) ?_|refine cr (f3 ..) ?_)<;>try simp only[go_sem,eq_false n0,eq_false n1,eq_false n2,eq_false n3,eq_false n4,eq_false n5,eq_true h6,q00 hz0,hg0,Int.reduceToNat,hi0]|fail)
  refine q5b (o108 w hw.x hok) [0,1,2,3] 62 4 (by simp only[go_sem];first|done|simp[E.row,Pc.row,Pair.row,Part.row,Flw.row,Pk.row,Conv.row]) (by simp only[List.mem_cons,List.not_mem_nil,or_false];rintro c (rfl|rfl|rfl|rfl)<;>simp only[go_sem]) (by rintro _ _ ⟨rfl,rfl⟩;simp) (by intro i hi;rcases(show i=0∨i=1∨i=2∨i=3 by omega) with rfl|rfl|rfl|rfl<;>simp only[go_sem]) ?_
  rintro _ _ ⟨rfl,rfl⟩
  simp only[go_sem]
  with_reducible repeat' (first|refine br ?_ ?_<;>intro h e<;>(try simp only[e,go_sem])<;>clear e|rw[q01 (by omega)]|refine sd ?_<;>try simp only[go_sem]|fail)
  exact q40 106200 106201 106202 106203 rfl (by simp only[go_sem]) (by simp only[go_sem]) (by simp only[go_sem]) (by simp only[go_sem]) (by simp only[go_sem]) (by simp only[go_sem]) (by simp only[go_sem]) (by decide)
 rw[if_neg h6]
 have n6:=h6
 clear h6
 by_cases h7:hd=[109,97,112]
 ·rw[if_pos h7]
  simp only[qkg,go_sem]
  have hel:∀p∈w.door.map,((λp:Pair=>dec p.port++(32::p.ins.text)) p).length≤200:=λp hp=>by
   have l1:=q13 p.port;have l2:=q3e p.ins;simp;omega
  with_reducible repeat' (first|refine br ?_ ?_<;>intro h e<;>(try simp only[e,go_sem,eq_false n0,eq_false n1,eq_false n2,eq_false n3,eq_false n4,eq_false n5,eq_false n6,eq_true h7,q00 hz0,hg0,Int.reduceToNat,hi0])<;>clear e|rw[q01 (by omega)]|refine sd ?_<;>try simp only[go_sem,eq_false n0,eq_false n1,eq_false n2,eq_false n3,eq_false n4,eq_false n5,eq_false n6,eq_true h7,q00 hz0,hg0,Int.reduceToNat,hi0]|(first|refine cr (f1 ..) ?_|refine cr (f2 ..) ?_|refine cr (f3 ..) ?_)<;>try simp only[go_sem,eq_false n0,eq_false n1,eq_false n2,eq_false n3,eq_false n4,eq_false n5,eq_false n6,eq_true h7,q00 hz0,hg0,Int.reduceToNat,hi0]|fail)
  have hjl:∀k,(q2b ((w.door.map.take k).map (λp:Pair=>dec p.port++(32::p.ins.text)))).length≤10*201:=λk=>by
   have h1:=q4e ((w.door.map.take k).map (λp:Pair=>dec p.port++(32::p.ins.text))) 200 (λx hx=>by
    obtain⟨p,hp,rfl⟩:=List.mem_map.1 hx
    exact hel p (List.mem_of_mem_take hp))
   have h2:((w.door.map.take k).map (λp:Pair=>dec p.port++(32::p.ins.text))).length*201≤10*201:=Nat.mul_le_mul_right _ (by simp only[List.length_map,List.length_take];omega)
   omega
  refine q0v (λk:Nat=>⟨q0i [(2,.pv 1002 0),(4,.pv 1004 0),(10,.str (q2b ((w.door.map.take k).map (λp:Pair=>dec p.port++(32::p.ins.text))))),(11,.int .i64 (k:Int))],q0c [(1002,.var 33 [.own 0 w.convs.length,.own 1 w.door.map.length,.own 2 w.door.flows.length,.own 3 w.nets.length]),(1004,.var 33 [.nils,.nils,.nils,.nils]),(0,.arr 69 10 (w.convs.map Conv.row)),(1,.arr 145 3 (w.door.map.map Pair.row)),(2,.arr 169 8 (w.door.flows.map Flw.row)),(3,.arr 65 7 (w.nets.map Pk.row))]⟩) (λk=>w.door.map.length - k) (λk=>k≤w.door.map.length) 0 (leQ []) (Nat.zero_le _) ?_
  intro k hk
  simp only[go_sem]
  by_cases hkl:(k:Int)<w.door.map.length
  ·have hil:k<w.door.map.length:=by omega
   have hg:w.door.map.getD k default=w.door.map[k]:=by simp[List.getD,hil]
   have hm:=List.getElem_mem hil
   have hst:=q9t w.door.map (λp:Pair=>dec p.port++(32::p.ins.text)) k hil
   try simp only at hst
   have hj:=hjl k
   have hpo:=(q5w hmk hil).1
   have g1:=c89 w.door.map[k].port (by omega)
   have g2:=c92 w.door.map[k].ins.a w.door.map[k].ins.p
   have l1:=q13 w.door.map[k].port
   have l2:=q3e w.door.map[k].ins
   rw[show E.text ⟨w.door.map[k].ins.a,w.door.map[k].ins.p⟩=w.door.map[k].ins.text from rfl] at g2
   generalize w.door.map[k]=p at *
   generalize dec p.port=x at *
   generalize p.ins.text=y at *
   generalize hJ:q2b ((w.door.map.take k).map (λp:Pair=>dec p.port++(32::p.ins.text)))=J at *
   simp only[eq_true hkl,go_sem]
   with_reducible repeat' (first|rw[q01 (by omega)];try simp only[go_sem,q00 hil,hg,zA,zC,zN,zZ,zP,zU]|refine br ?_ ?_<;>intro h e<;>(try simp only[e,go_sem,q00 hil,hg,zA,zC,zN,zZ,zP,zU])<;>clear e|refine sd ?_<;>try simp only[go_sem,q00 hil,hg,zA,zC,zN,zZ,zP,zU]|(first|refine cr (g1 ..) ?_|refine cr (g2 ..) ?_)<;>try simp only[go_sem,q00 hil,hg,zA,zC,zN,zZ,zP,zU]|fail)
   all_goals first
    | (refine⟨k+1,by omega,by omega, ?_⟩;simp only[hst];refine leN [] ?_ ?_ (by simp[q0o]) (by simp only[go_sem])<;>simp only[go_sem]<;>(try simp);done)
    | trace_state
  ·simp only[eq_false hkl,go_sem]
   obtain rfl:k=w.door.map.length:=by omega
   have hj:=hjl w.door.map.length
   rw[List.take_length] at hj ⊢
   have g1:=c89 (w.door.map.length:Int) (by omega)
   have l1:=q13 (w.door.map.length:Int)
   rw[q96] at g1 l1
   generalize hJ:q2b (w.door.map.map (λp:Pair=>dec p.port++(32::p.ins.text)))=J at *
   generalize hD:q7h w.door.map.length=D at *
   with_reducible repeat' (first|refine br ?_ ?_<;>intro h e<;>(try simp only[e,go_sem,zA,zC,zN,zZ,zP,zU])<;>clear e|rw[q01 (by omega)]|refine sd ?_<;>try simp only[go_sem,zA,zC,zN,zZ,zP,zU]|(first|refine cr (g1 ..) ?_)<;>try simp only[go_sem,zA,zC,zN,zZ,zP,zU]|fail)
   all_goals first
    | exact q40 0 1 2 3 rfl (by simp only[go_sem]) (by simp only[go_sem];first|done|simp) (by simp only[go_sem]) (by simp only[go_sem]) (by simp only[go_sem]) (by simp only[go_sem]) (by simp only[go_sem]) (by decide)
    | trace_state
 rw[if_neg h7]
 have n7:=h7
 clear h7
 by_cases h8:hd=[110,101,116,115]
 ·rw[if_pos h8]
  simp only[qkg,go_sem]
  have hel:∀p∈w.nets,(q0f p).length≤200:=λp hp=>by
   have l1:=q2h p;have l2:=(hw.net p hp).pk.len;omega
  with_reducible repeat' (first|refine br ?_ ?_<;>intro h e<;>(try simp only[e,go_sem,eq_false n0,eq_false n1,eq_false n2,eq_false n3,eq_false n4,eq_false n5,eq_false n6,eq_false n7,eq_true h8,q00 hz0,hg0,Int.reduceToNat,hi0])<;>clear e|rw[q01 (by omega)]|refine sd ?_<;>try simp only[go_sem,eq_false n0,eq_false n1,eq_false n2,eq_false n3,eq_false n4,eq_false n5,eq_false n6,eq_false n7,eq_true h8,q00 hz0,hg0,Int.reduceToNat,hi0]|(first|refine cr (f1 ..) ?_|refine cr (f2 ..) ?_|refine cr (f3 ..) ?_)<;>try simp only[go_sem,eq_false n0,eq_false n1,eq_false n2,eq_false n3,eq_false n4,eq_false n5,eq_false n6,eq_false n7,eq_true h8,q00 hz0,hg0,Int.reduceToNat,hi0]|fail)
  have hjl:∀k,(q2b ((w.nets.take k).map q0f)).length≤10*201:=λk=>by
   have h1:=q4e ((w.nets.take k).map q0f) 200 (λx hx=>by
    obtain⟨p,hp,rfl⟩:=List.mem_map.1 hx
    exact hel p (List.mem_of_mem_take hp))
   have h2:((w.nets.take k).map q0f).length*201≤10*201:=Nat.mul_le_mul_right _ (by simp only[List.length_map,List.length_take];omega)
   omega
  refine q0v (λk:Nat=>⟨q0i [(2,.pv 1002 0),(4,.pv 1004 0),(12,.str (q2b ((w.nets.take k).map q0f))),(13,.int .i64 (k:Int))],q0c [(1002,.var 33 [.own 0 w.convs.length,.own 1 w.door.map.length,.own 2 w.door.flows.length,.own 3 w.nets.length]),(1004,.var 33 [.nils,.nils,.nils,.nils]),(0,.arr 69 10 (w.convs.map Conv.row)),(1,.arr 145 3 (w.door.map.map Pair.row)),(2,.arr 169 8 (w.door.flows.map Flw.row)),(3,.arr 65 7 (w.nets.map Pk.row))]⟩) (λk=>w.nets.length - k) (λk=>k≤w.nets.length) 0 (leQ []) (Nat.zero_le _) ?_
  intro k hk
  simp only[go_sem]
  by_cases hkl:(k:Int)<w.nets.length
  ·have hil:k<w.nets.length:=by omega
   have hg:w.nets.getD k default=w.nets[k]:=by simp[List.getD,hil]
   have hm:=List.getElem_mem hil
   have hst:=q9t w.nets q0f k hil
   try simp only at hst
   have hj:=hjl k
   have l1:=q2h w.nets[k]
   have l2:=(hw.net _ hm).pk.len
   have g1:=c90 w.nets[k] (by omega)
   generalize w.nets[k]=p at *
   generalize q0f p=x at *
   generalize hJ:q2b ((w.nets.take k).map q0f)=J at *
   simp only[eq_true hkl,go_sem]
   with_reducible repeat' (first|rw[q01 (by omega)];try simp only[go_sem,q00 hil,hg,zA,zC,zN,zZ,zP,zU]|refine br ?_ ?_<;>intro h e<;>(try simp only[e,go_sem,q00 hil,hg,zA,zC,zN,zZ,zP,zU])<;>clear e|refine sd ?_<;>try simp only[go_sem,q00 hil,hg,zA,zC,zN,zZ,zP,zU]|(first|refine cr (g1 ..) ?_)<;>try simp only[go_sem,q00 hil,hg,zA,zC,zN,zZ,zP,zU]|fail)
   all_goals first
    | (refine⟨k+1,by omega,by omega, ?_⟩;simp only[hst];refine leN [] ?_ ?_ (by simp[q0o]) (by simp only[go_sem])<;>simp only[go_sem]<;>(try simp);done)
    | trace_state
  ·simp only[eq_false hkl,go_sem]
   obtain rfl:k=w.nets.length:=by omega
   have hj:=hjl w.nets.length
   rw[List.take_length] at hj ⊢
   have g1:=c89 (w.nets.length:Int) (by omega)
   have l1:=q13 (w.nets.length:Int)
   rw[q96] at g1 l1
   generalize hJ:q2b (w.nets.map q0f)=J at *
   generalize hD:q7h w.nets.length=D at *
   with_reducible repeat' (first|refine br ?_ ?_<;>intro h e<;>(try simp only[e,go_sem,zA,zC,zN,zZ,zP,zU])<;>clear e|rw[q01 (by omega)]|refine sd ?_<;>try simp only[go_sem,zA,zC,zN,zZ,zP,zU]|(first|refine cr (g1 ..) ?_)<;>try simp only[go_sem,zA,zC,zN,zZ,zP,zU]|fail)
   all_goals first
    | exact q40 0 1 2 3 rfl (by simp only[go_sem]) (by simp only[go_sem];first|done|simp) (by simp only[go_sem]) (by simp only[go_sem]) (by simp only[go_sem]) (by simp only[go_sem]) (by simp only[go_sem]) (by decide)
    | trace_state
 rw[if_neg h8]
 have n8:=h8
 clear h8
 simp only[qkg,go_sem]
 with_reducible repeat' (first|refine br ?_ ?_<;>intro h e<;>(try simp only[e,go_sem,eq_false n0,eq_false n1,eq_false n2,eq_false n3,eq_false n4,eq_false n5,eq_false n6,eq_false n7,eq_false n8,q00 hz0,hg0,Int.reduceToNat,hi0])<;>clear e|rw[q01 (by omega)]|refine sd ?_<;>try simp only[go_sem,eq_false n0,eq_false n1,eq_false n2,eq_false n3,eq_false n4,eq_false n5,eq_false n6,eq_false n7,eq_false n8,q00 hz0,hg0,Int.reduceToNat,hi0]|(first|refine cr (f1 ..) ?_|refine cr (f2 ..) ?_|refine cr (f3 ..) ?_)<;>try simp only[go_sem,eq_false n0,eq_false n1,eq_false n2,eq_false n3,eq_false n4,eq_false n5,eq_false n6,eq_false n7,eq_false n8,q00 hz0,hg0,Int.reduceToNat,hi0]|fail)
 exact q40 0 1 2 3 rfl (by simp only[go_sem]) (by simp only[go_sem]) (by simp only[go_sem]) (by simp only[go_sem]) (by simp only[go_sem]) (by simp only[go_sem]) (by simp only[go_sem]) (by decide)
theorem qab {w:M.World} (hw:WI w) (l:B):(q23 w l).2.length≤2100:=by
 have hnl:=hw.nl
 have hml:=(q0d (q07.1 hw.door).1).2
 obtain⟨h,r,hc⟩:=qb3 l
 rw[qbl w l hc]
 have h1:=q4e (w.door.map.map λp=>dec p.port++(32::p.ins.text)) 200 (λx hx=>by
  obtain⟨p,hp,rfl⟩:=List.mem_map.1 hx
  have l1:=q13 p.port
  have l2:=q3e p.ins
  simp
  omega)
 have h2:=q4e (w.nets.map q0f) 200 (λx hx=>by
  obtain⟨p,hp,rfl⟩:=List.mem_map.1 hx
  have l1:=q2h p
  have l2:=(hw.net p hp).pk.len
  omega)
 have h3:(w.door.map.map λp=>dec p.port++(32::p.ins.text)).length*(200+1)≤10*201:=Nat.mul_le_mul_right _ (by simp;omega)
 have h4:(w.nets.map q0f).length*(200+1)≤10*201:=Nat.mul_le_mul_right _ (by simp;omega)
 have h5:=q13 (w.door.map.length:Int)
 have h6:=q13 (w.nets.length:Int)
 rw[q96] at h5 h6
 iterate 7
  split
  ·simp
 split
 ·simp only[zA,zC,zN];omega
 split
 ·simp only[zA,zC,zN];omega
 ·simp
theorem qcp (up down:B):[[V.int .i64 1,V.int .i64 1,V.int .i64 4,V.int .i64 4,V.str up,V.str down,V.int .i64 0,V.int .i64 0,V.str [],V.str []]]=[q1j up down].map Conv.row:=rfl
theorem qcw {w:M.World} (h:SI CK CN w) (h1:w.convs.length=1):∃c,w.convs=[c]∧convOk c=true:=by
 match hc:w.convs,h1 with
 | [c],_=>exact⟨c,rfl,h.wi.cv c (by rw[hc];simp)⟩
def ic20:IC:=sR [oP 6 (.mv (.c s0))] (sR [oP 15 (.build [i0,i0] [(0,(1,cI 1)),(1,(1,cI 1))]),oP 16 (.build [i0,i0] [(0,(1,cI 4)),(1,(1,cI 4))]),mV 17 0,mV 18 1,oP 19 (.build [i0,i0,i0,i0,s0,s0,i0,i0,s0,s0] [(0,(2,.t 15)),(2,(2,.t 16)),(4,(1,.t 17)),(5,(1,.t 18))]),oP 20 (.bsl 69 10 [.t 19]),oP 21 (.call 23 [.t 20]),mV 14 21,eX 22 14 0,eX 23 14 1,oP 7 (.alloc 33 [.nils,.nils,.nils,.nils]),nP (.sto 4 (.t 7) (.t 22)),mV 8 23] (.seq (sR [mV 24 8,oP 25 (.un .not (.t 24))] (cD 25 (sR [oP 6 (.mv (.c (.str [110,111,32,119,111,114,108,100,10])))] .ret) .skip)) (.seq (sR [mV 26 2,oP 27 (.lens (.t 26)),oP 28 (.bin .gtr (.t 27) (cI 600))] (cD 28 (sR [oP 6 (.mv (.c (.str [116,111,111,32,108,111,110,103,10])))] .ret) .skip)) (sR [oP 9 (.mv (.c s0))] (sR [mV 29 2,oP 30 (.call 51 [.t 29,.c (.int .u8 10)]),mV 10 30] (.seq (sR [oP 11 (.mv (.c i0))] (.block 0 (.loop (.seq (sR [mV 31 11,oP 32 (.bin .add (.t 31) (cI 1)),mV 33 10,oP 34 (.len (.t 33)),bN 35 .lss 32 34] (cD 35 .skip (.exit 0))) (.seq (.block 1 (.seq (.drw [0,0,0,6,14,31,63,127,127,0,767,2047] [(0,lA 39 4 7),(1,mV 40 10),(2,mV 41 11),(3,oP 42 (.iad 1 (.t 40) (.t 41))),(4,lD 43 1 42),(5,oP 44 (.call 52 [.t 39,.t 43])),(6,mV 38 44),(7,eX 45 38 0),(8,eX 46 38 1),(9,oP 12 (.alloc 33 [.nils,.nils,.nils,.nils])),(10,nP (.sto 4 (.t 12) (.t 45))),(11,mV 13 46)]) (sR [lA 47 4 12,nP (.sto 4 (.t 7) (.t 47))] (.reg [mV 48 9,mV 49 13,bN 50 .add 48 49,mV 9 50])))) (.reg [mV 36 11,oP 37 (.bin .add (.t 36) (cI 1)),mV 11 37])))))) (sR [mV 51 9,lA 52 4 7,oP 53 (.call 53 [.t 52]),bN 54 .add 51 53,mV 6 54] .ret)))))))
theorem dg20:Dg Tryz.prog 20 Tryz.f20 ic20 [(.t 6)]:=⟨Tryz.func20,by kernel_rfl,by kernel_rfl⟩
set_option maxHeartbeats 4000000 in
theorem c20 (up down text:B) (h1:up.length≤2000000) (h2:down.length≤2000000) (h3:text.length≤2000000):FnR Tryz.prog G 20 [.str up,.str down,.str text] (.str (q10 up down text)):=by
 refine mF dg20 Tryz.ntmps20 ?_
 have hone:([q1j up down]:List Conv).length=1:=rfl
 simp only[ic20,go_sem]
 with_reducible repeat' (first|refine br ?_ ?_<;>intro h e<;>(try simp only[e,go_sem])<;>clear e|rw[q01 (by omega)]|refine sd ?_<;>try simp only[go_sem]|fail)
 simp only[qcp]
 refine q0m (c23 [q1j up down] (by simp) (by simp[q1j];omega)) [] [1020] false 21 4 (by simp only[go_sem];first|done|simp) trivial (by simp) (by simp) (by simp only[List.mem_singleton];rintro c rfl;exact⟨rfl,by simp⟩) ?_ ?_ ?_
 ·rintro _ _ (⟨w,h,rfl,rfl⟩|⟨h,rfl,rfl⟩)
  ·refine⟨by simp,by simp,.inr ⟨by simp[V.plain,V.plain2,V.plain1,V.plain0], ?_⟩,λi hi=>by omega⟩
   obtain⟨_,_,hz,hn⟩:=q2w h
   intro s hs
   simp only[List.mem_cons,List.not_mem_nil,or_false] at hs
   rcases hs with rfl|rfl|rfl|rfl
   ·exact cvP _
   ·rw[hz];rfl
   ·rw[hz];rfl
   ·rw[hn];rfl
  ·exact⟨by simp,by simp,.inr ⟨by simp[V.plain,V.plain2,V.plain1,V.plain0],by simp⟩,λi hi=>by omega⟩
 ·intro i hi;rcases(show i=0∨i=1∨i=2∨i=3 by omega) with rfl|rfl|rfl|rfl<;>simp only[go_sem]
 rintro _ _ (⟨w,hw,rfl,rfl⟩|⟨hw,rfl,rfl⟩)
 rotate_left
 ·have e:q10 up down text=[110,111,32,119,111,114,108,100,10]:=by simp only[q10,hw]
  rw[e]
  simp only[go_sem]
  with_reducible repeat' (first|refine br ?_ ?_<;>intro h e<;>(try simp only[e,go_sem])<;>clear e|rw[q01 (by omega)]|refine sd ?_<;>try simp only[go_sem]|fail)
 by_cases h6:(600:Int)<text.length
 ·have e:q10 up down text=[116,111,111,32,108,111,110,103,10]:=by simp only[q10,hw];rw[if_pos (by omega)]
  rw[e]
  simp only[go_sem,eq_true h6]
  with_reducible repeat' (first|refine br ?_ ?_<;>intro h e<;>(try simp only[e,go_sem,eq_true h6])<;>clear e|rw[q01 (by omega)]|refine sd ?_<;>try simp only[go_sem,eq_true h6]|fail)
 have e:q10 up down text=(q0l w (q0a 10 text).dropLast).2++q2g (q0l w (q0a 10 text).dropLast).1:=by simp only[q10,hw];rw[if_neg (by omega)]
 rw[e]
 have hsi:=q7m hw []
 have hcon:=q91 hw []
 have f1:=c51 text 10 (by omega)
 simp only[show((UInt8.toNat 10:Nat):Int)=10 from rfl] at f1
 have hln:=q3i 10 text
 have hmem:=q3h 10 text
 have hne:=q36 10 text
 generalize hLS:q0a 10 text=LS at *
 have hpos:1≤LS.length:=by
  cases LS with
  | nil=>exact absurd rfl hne
  | cons a b=>simp
 simp only[go_sem,eq_false h6]
 with_reducible repeat' (first|refine br ?_ ?_<;>intro h e<;>(try simp only[e,go_sem,eq_false h6])<;>clear e|rw[q01 (by omega)]|refine sd ?_<;>try simp only[go_sem,eq_false h6]|(first|refine cr (f1 ..) ?_)<;>try simp only[go_sem,eq_false h6]|fail)
 refine q0v (λa:Nat×M.World×B=>⟨q0i [(7,.pv 1007 0),(9,.str a.2.2),(10,.sl 1 (LS.map λx=>[.str x])),(11,.int .i64 (a.1:Int))],q0c [(1007,.var 33 [.own 102100 a.2.1.convs.length,.own 102101 a.2.1.door.map.length,.own 102102 a.2.1.door.flows.length,.own 102103 a.2.1.nets.length]),(102100,.arr 69 10 (a.2.1.convs.map Conv.row)),(102101,.arr 145 3 (a.2.1.door.map.map Pair.row)),(102102,.arr 169 8 (a.2.1.door.flows.map Flw.row)),(102103,.arr 65 7 (a.2.1.nets.map Pk.row))]⟩)
  (λa=>LS.length - a.1) (λa=>a.1+1≤LS.length∧SI CK CN a.2.1∧a.2.1.convs.length=1∧a.2.2.length≤2100*a.1∧q0l w LS.dropLast=((q0l a.2.1 (LS.drop a.1).dropLast).1,a.2.2++(q0l a.2.1 (LS.drop a.1).dropLast).2)) (0,w,[]) (leQ []) ⟨by simp only;omega,hsi,hcon,by simp,by simp⟩ ?_
 intro⟨i,v,out⟩ ⟨g1,g2,g3,g4,g5⟩
 simp only at g1 g2 g3 g4 g5
 simp only[go_sem]
 have hi1:IntKind.i64.wrap ((i:Int)+1)=(i:Int)+1:=q01 (by omega)
 by_cases h:(i:Int)+1<LS.length
 ·have hil:i<LS.length:=by omega
  have hg:LS.getD i default=LS[i]:=by simp[List.getD,hil]
  have hl:=hmem _ (List.getElem_mem hil)
  have hd:(LS.drop i).dropLast=LS[i]::(LS.drop (i+1)).dropLast:=by
   rw[List.drop_eq_getElem_cons hil]
   cases hq:LS.drop (i+1) with
   | nil =>
     have:=congrArg List.length hq
     simp at this
     omega
   | cons a b=>rfl
  rw[hd] at g5
  generalize LS[i]=line at *
  have hll:=qab g2.wi line
  have hsi2:=q8v q0y g2 line
  have hex:=(q7b v line).len
  have hj:q0l v (line::(LS.drop (i+1)).dropLast)=((q0l (q23 v line).1 (LS.drop (i+1)).dropLast).1,(q23 v line).2++(q0l (q23 v line).1 (LS.drop (i+1)).dropLast).2):=rfl
  rw[hj] at g5
  simp only[hi1,eq_true h,go_sem]
  with_reducible repeat' (first|refine br ?_ ?_<;>intro h e<;>(try simp only[e,go_sem,q00 hil,hg])<;>clear e|rw[q01 (by omega)]|refine sd ?_<;>try simp only[go_sem,q00 hil,hg]|fail)
  refine q25 (c52 v line g2.wi (si_ok g2) (by omega)) [102100,102101,102102,102103] [] 44 4 (by simp only[go_sem];first|done|simp) (by simp only[go_sem];first|done|simp) (by simp) (by simp) (by rintro _ _ ⟨rfl,rfl⟩;simp) (by intro i hi;rcases(show i=0∨i=1∨i=2∨i=3 by omega) with rfl|rfl|rfl|rfl<;>simp only[go_sem]) ?_
  rintro _ _ ⟨rfl,rfl⟩
  simp only[go_sem]
  generalize q23 v line=x at *
  with_reducible repeat' (first|rw[q01 (by omega)];try simp only[go_sem,zA]|refine br ?_ ?_<;>intro h e<;>(try simp only[e,go_sem,zA])<;>clear e|refine sd ?_<;>try simp only[go_sem,zA]|fail)
  exact⟨(i+1,x.1,out++x.2),by simp only;omega,⟨by simp only;omega,hsi2,by simp only;omega,by simp only[zA];omega,by simp only;rw[g5,List.append_assoc]⟩,(leQ [(102100,104400),(102101,104401),(102102,104402),(102103,104403)])⟩
 ·simp only[hi1,eq_false h,go_sem]
  have hd:(LS.drop i).dropLast=[]:=by
   have:(LS.drop i).length=1:=by simp;omega
   match hq:LS.drop i,this with
   | [a],_=>rfl
  rw[hd,show q0l v []=(v,[]) from rfl,List.append_nil] at g5
  rw[g5]
  obtain⟨c,hc,hok⟩:=qcw g2 g3
  have fa:=c53 v c hc hok
  have hel:(q2g v).length≤1000:=by
   obtain⟨_,_,l3,l4⟩:=endB hok
   have l1:=q13 c.upAck
   have l2:=q13 c.downAck
   simp only[q2g,hc,zA,zC,zN]
   omega
  generalize q2g v=ee at *
  simp only
  with_reducible repeat' (first|refine br ?_ ?_<;>intro h e<;>(try simp only[e,go_sem])<;>clear e|rw[q01 (by omega)]|refine sd ?_<;>try simp only[go_sem]|fail)
  refine q2p fa [102100,102101,102102,102103] true (by simp only[go_sem];first|done|simp[E.row,Pc.row,Pair.row,Part.row,Flw.row,Pk.row,Conv.row]) (by simp only[List.mem_cons,List.not_mem_nil,or_false];rintro c (rfl|rfl|rfl|rfl)<;>simp only[go_sem]) rfl (.inl rfl) ?_
  simp only[go_sem]
  with_reducible repeat' (first|refine br ?_ ?_<;>intro h e<;>(try simp only[e,go_sem])<;>clear e|rw[q01 (by omega)]|refine sd ?_<;>try simp only[go_sem]|fail)
theorem qgl {line:B} {r:List B} (h:q0a 32 line=[102,111,114,103,101]::r):q14 (if([102,111,114,103,101,32]:B).isPrefixOf line then line.drop ([102,111,114,103,101,32]:B).length else line)=q14 (line.drop 6):=by
 by_cases h32:(32:UInt8)∈line
 ·obtain⟨us,bs,hs,hna⟩:=List.eq_append_cons_of_mem h32
  subst hs
  rw[q1f,q1n hna] at h
  simp only[List.cons_append,List.nil_append,List.cons.injEq] at h
  obtain⟨rfl,_⟩:=h
  have hp:([102,111,114,103,101,32]:B).isPrefixOf ([102,111,114,103,101]++32::bs)=true:=by simp[List.isPrefixOf]
  rw[if_pos hp]
  rfl
 ·rw[q1n h32] at h
  simp only[List.cons.injEq] at h
  obtain⟨rfl,_⟩:=h
  decide +kernel
def qht:IC:=sR [oP 4 (.mv (.c s0))] (sR [mV 14 1,oP 15 (.call 97 [.t 14,.c (.str [32])]),mV 5 15] (.seq (sR [mV 16 5,oP 17 (.iad 1 (.t 16) (.c i0)),lD 18 1 17] (.block 0 (sR [oP 20 (.bin .eql (.t 18) (.c (.str [117,112]))),mV 19 20] (cD 19 (.reg [mV 21 0,mV 22 5,oP 23 (.call 98 [.t 22,cI 1]),mV 24 5,oP 25 (.call 98 [.t 24,cI 2]),oP 26 (.build [i0,i0,i0,i0,i0,i0,i0,i0,i0,i0,s0] [(0,(1,cI 1)),(2,(1,.t 23)),(3,(1,.t 25))]),oP 27 (.call 28 [.t 21,.t 26])]) (sR [oP 29 (.bin .eql (.t 18) (.c (.str [100,111,119,110]))),mV 28 29] (cD 28 (.reg [mV 30 0,mV 31 5,oP 32 (.call 98 [.t 31,cI 1]),mV 33 5,oP 34 (.call 98 [.t 33,cI 2]),oP 35 (.build [i0,i0,i0,i0,i0,i0,i0,i0,i0,i0,s0] [(0,(1,cI 2)),(2,(1,.t 32)),(3,(1,.t 34))]),oP 36 (.call 28 [.t 30,.t 35])]) (sR [oP 38 (.bin .eql (.t 18) (.c (.str [98,114,105,110,103]))),mV 37 38] (cD 37 (.reg [mV 39 0,mV 40 5,oP 41 (.call 98 [.t 40,cI 1]),oP 42 (.build [i0,i0,i0,i0,i0,i0,i0,i0,i0,i0,s0] [(0,(1,cI 3)),(1,(1,.t 41))]),oP 43 (.call 28 [.t 39,.t 42])]) (sR [oP 45 (.bin .eql (.t 18) (.c (.str [108,111,115,101]))),mV 44 45] (cD 44 (.reg [mV 46 0,mV 47 5,oP 48 (.call 98 [.t 47,cI 1]),oP 49 (.build [i0,i0,i0,i0,i0,i0,i0,i0,i0,i0,s0] [(0,(1,cI 4)),(1,(1,.t 48))]),oP 50 (.call 28 [.t 46,.t 49])]) (sR [oP 52 (.bin .eql (.t 18) (.c (.str [116,119,105,99,101]))),mV 51 52] (cD 51 (.reg [mV 53 0,mV 54 5,oP 55 (.call 98 [.t 54,cI 1]),oP 56 (.build [i0,i0,i0,i0,i0,i0,i0,i0,i0,i0,s0] [(0,(1,cI 5)),(1,(1,.t 55))]),oP 57 (.call 28 [.t 53,.t 56])]) (sR [oP 59 (.bin .eql (.t 18) (.c (.str [102,111,114,103,101]))),mV 58 59] (cD 58 (sR [mV 61 1,oP 62 (.call 100 [.t 61,.c (.str [102,111,114,103,101,32])]),oP 63 (.call 99 [.t 62]),mV 60 63,eX 64 60 0,eX 65 60 1,oP 6 (.alloc 65 [i0,i0,i0,i0,i0,i0,s0]),nP (.sto 7 (.t 6) (.t 64)),mV 7 65] (sR [mV 66 7] (cD 66 (.reg [mV 67 0,lA 68 7 6,oP 69 (.build [i0,i0,i0,i0,i0,i0,i0,i0,i0,i0,s0] [(0,(1,cI 6)),(4,(7,.t 68))]),oP 70 (.call 28 [.t 67,.t 69])]) .skip))) (sR [oP 72 (.bin .eql (.t 18) (.c (.str [99,97,108,109]))),mV 71 72] (cD 71 (.reg [mV 73 0,oP 74 (.call 101 [.t 73])]) (sR [oP 76 (.bin .eql (.t 18) (.c (.str [109,97,112]))),mV 75 76] (cD 75 (sR [oP 77 (.bsl 9 1 []),mV 8 77] (.seq (sR [mV 78 0,oP 79 (.nilc (.t 78)),fD 80 1 79,fD 81 0 80,lD 82 1 81,oP 83 (.len (.t 82)),oP 84 (.mv (.c i0))] (.block 1 (.loop (sR [bN 85 .lss 84 83] (.seq (cD 85 .skip (.exit 1)) (.seq (.block 2 (sR [oP 86 (.iad 3 (.t 82) (.t 84)),lA 87 3 86,oP 10 (.alloc 145 [i0,i0,i0]),nP (.sto 3 (.t 10) (.t 87))] (.drw [0,0,2,6,14,0,32,110,254,510,1023,2047] [(0,mV 88 8),(1,fD 89 0 10),(2,lD 90 1 89),(3,oP 91 (.call 49 [.t 90])),(4,oP 92 (.bin .add (.t 91) (.c (.str [32])))),(5,fD 93 1 10),(6,lA 94 2 93),(7,oP 95 (.call 102 [.t 94])),(8,bN 96 .add 92 95),(9,oP 97 (.bsl 9 1 [.t 96])),(10,oP 98 (.app 9 1 (.t 88) (.t 97))),(11,mV 8 98)]))) (.reg [oP 99 (.bin .add (.t 84) (cI 1)),mV 84 99]))))))) (sR [mV 100 8,oP 101 (.call 103 [.t 100]),mV 4 101] .ret))) (sR [oP 103 (.bin .eql (.t 18) (.c (.str [110,101,116,115]))),mV 102 103] (cD 102 (sR [oP 104 (.bsl 9 1 []),mV 11 104] (.seq (sR [mV 105 0,oP 106 (.nilc (.t 105)),fD 107 3 106,lD 108 1 107,oP 109 (.len (.t 108)),oP 110 (.mv (.c i0))] (.block 3 (.loop (sR [bN 111 .lss 110 109] (.seq (cD 111 .skip (.exit 3)) (.seq (.block 4 (sR [oP 112 (.iad 7 (.t 108) (.t 110)),lA 113 7 112,oP 13 (.alloc 65 [i0,i0,i0,i0,i0,i0,s0]),nP (.sto 7 (.t 13) (.t 113))] (.reg [mV 114 11,lA 115 7 13,oP 116 (.call 104 [.t 115]),oP 117 (.bsl 9 1 [.t 116]),oP 118 (.app 9 1 (.t 114) (.t 117)),mV 11 118]))) (.reg [oP 119 (.bin .add (.t 110) (cI 1)),mV 110 119]))))))) (sR [mV 120 11,oP 121 (.call 103 [.t 120]),mV 4 121] .ret))) (sR [oP 4 (.mv (.c (.str [119,104,97,116,10])))] .ret))))))))))))))))))))) (sR [oP 4 (.mv (.c s0))] .ret)))
theorem dg48:Dg Tryz.prog 48 Tryz.f48 qht [(.t 4)]:=⟨Tryz.func48,by kernel_rfl,by kernel_rfl⟩
set_option maxHeartbeats 8000000 in
theorem c48 (w:M.World) (line:B) (hw:WI w) (hl:line.length≤1000):FnP Tryz.prog G 48 1 [.var 33 [.own 2 w.convs.length,.sl 3 (w.door.map.map Pair.row),.own 1 w.door.flows.length,.own 3 w.nets.length],.arr 169 8 (w.door.flows.map Flw.row),.arr 69 10 (w.convs.map Conv.row),.arr 65 7 (w.nets.map Pk.row)] [.pv 0 0,.str line] (λr o=>r=.str (q23 w line).2∧∃v,v=(q23 w line).1∧o=[.var 33 [.own 2 v.convs.length,.sl 3 (v.door.map.map Pair.row),.own 1 v.door.flows.length,.own 3 v.nets.length],.arr 169 8 (v.door.flows.map Flw.row),.arr 69 10 (v.convs.map Conv.row),.arr 65 7 (v.nets.map Pk.row)]):=by
 refine mP dg48 Tryz.ntmps48 ⟨_,_,rfl,_,rfl,rfl⟩ ?_
 have hnl:=hw.nl
 have hml:=(q0d (q07.1 hw.door).1).2
 have hmk:=(q07.1 hw.door).1
 have f1:=c97 line 32 (by omega)
 have hln:=q3i 32 line
 have hmem:=q3h 32 line
 obtain⟨hd,r,hc⟩:=qb3 line
 have hL:=qbl w line hc
 rw[hc] at f1 hln hmem
 have f2:=c98 (hd::r) 1 (by omega) (λx hx=>by have:=hmem x hx;omega)
 have f3:=c98 (hd::r) 2 (by omega) (λx hx=>by have:=hmem x hx;omega)
 rw[hL]
 clear hL
 have hz0:0<(hd::r).length:=by simp
 have hg0:(hd::r).getD 0 default=hd:=rfl
 have hi0:((0:Int)<((hd::r).length:Int))=True:=eq_true (by simp only[zC];omega)
 generalize hws:hd::r=ws at *
 generalize hw1:q1l ws 1=a at *
 generalize hw2:q1l ws 2=b at *
 simp only[show(((1:Nat):Int))=1 from rfl] at f2
 simp only[show(((2:Nat):Int))=2 from rfl] at f3
 have fin:∀l mm (v V:M.World) (S:B) (n1 n2 n3:Nat),v=V→q0i l 4=.str S→q0c mm 0=.var 33 [.own n2 v.convs.length,.sl 3 (v.door.map.map Pair.row),.own n1 v.door.flows.length,.own n3 v.nets.length]→[0,n1,n2,n3].Nodup→q0c mm n1=.arr 169 8 (v.door.flows.map Flw.row)→q0c mm n2=.arr 69 10 (v.convs.map Conv.row)→q0c mm n3=.arr 65 7 (v.nets.map Pk.row) →
  q59 [.t 4] 1 (λr o=>r=.str S∧∃v,v=V∧o=[.var 33 [.own 2 v.convs.length,.sl 3 (v.door.map.map Pair.row),.own 1 v.door.flows.length,.own 3 v.nets.length],.arr 169 8 (v.door.flows.map Flw.row),.arr 69 10 (v.convs.map Conv.row),.arr 65 7 (v.nets.map Pk.row)]) .ret ⟨q0i l,q0c mm⟩:=λl mm v V S n1 n2 n3 hx h1 h2 h3 h4 h5 h6=>by
  refine q1m (.str S) [.var 33 [.own 2 v.convs.length,.sl 3 (v.door.map.map Pair.row),.own 1 v.door.flows.length,.own 3 v.nets.length],.arr 169 8 (v.door.flows.map Flw.row),.arr 69 10 (v.convs.map Conv.row),.arr 65 7 (v.nets.map Pk.row)] [(1,n1),(2,n2),(3,n3)] (by simp only[go_sem,h1]) ⟨rfl,v,hx,rfl⟩ ?_ (by simpa[q1c,q0o] using h3) (by simp only[go_sem])
  simp only[go_sem,h2,h4,h5,h6]
 by_cases h0:hd=[117,112]
 ·rw[if_pos h0]
  simp only[qht,go_sem]
  with_reducible repeat' (first|refine br ?_ ?_<;>intro h e<;>(try simp only[e,go_sem,eq_true h0,q00 hz0,hg0,Int.reduceToNat,hi0])<;>clear e|rw[q01 (by omega)]|refine sd ?_<;>try simp only[go_sem,eq_true h0,q00 hz0,hg0,Int.reduceToNat,hi0]|(first|refine cr (f1 ..) ?_|refine cr (f2 ..) ?_|refine cr (f3 ..) ?_)<;>try simp only[go_sem,eq_true h0,q00 hz0,hg0,Int.reduceToNat,hi0]|fail)
  refine q0m (x28 w ⟨1,0,a,b,.zero⟩ hw.x (by simp[Pk.zero])) [0,1,2,3] [] true 27 4 (by simp only[go_sem,Pk.zero,E.zero];first|done|simp[Pk.zero,E.zero]) (by simp only[go_sem];first|done|simp) (by simp) (by simp) (by simp) ?_ ?_ ?_
  ·rintro _ _ ⟨rfl,v',hv',rfl⟩
   exact⟨by simp,by simp,.inl rfl,λi hi=>by obtain rfl:i=0:=(by omega);simp[chH,q09]⟩
  ·intro i hi
   rcases(show i=0∨i=1∨i=2∨i=3 by omega) with rfl|rfl|rfl|rfl<;>simp only[go_sem]
  rintro _ _ ⟨rfl,v,hv,rfl⟩
  simp only[go_sem]
  with_reducible repeat' (first|refine br ?_ ?_<;>intro h e<;>(try simp only[e,go_sem])<;>clear e|rw[q01 (by omega)]|refine sd ?_<;>try simp only[go_sem]|fail)
  exact fin _ _ v _ _ 102701 102702 102703 hv (by simp only[go_sem]) (by simp only[go_sem]) (by decide) (by simp only[go_sem]) (by simp only[go_sem]) (by simp only[go_sem])
 rw[if_neg h0]
 have n0:=h0
 clear h0
 by_cases h1:hd=[100,111,119,110]
 ·rw[if_pos h1]
  simp only[qht,go_sem]
  with_reducible repeat' (first|refine br ?_ ?_<;>intro h e<;>(try simp only[e,go_sem,eq_false n0,eq_true h1,q00 hz0,hg0,Int.reduceToNat,hi0])<;>clear e|rw[q01 (by omega)]|refine sd ?_<;>try simp only[go_sem,eq_false n0,eq_true h1,q00 hz0,hg0,Int.reduceToNat,hi0]|(first|refine cr (f1 ..) ?_|refine cr (f2 ..) ?_|refine cr (f3 ..) ?_)<;>try simp only[go_sem,eq_false n0,eq_true h1,q00 hz0,hg0,Int.reduceToNat,hi0]|fail)
  refine q0m (x28 w ⟨2,0,a,b,.zero⟩ hw.x (by simp[Pk.zero])) [0,1,2,3] [] true 36 4 (by simp only[go_sem,Pk.zero,E.zero];first|done|simp[Pk.zero,E.zero]) (by simp only[go_sem];first|done|simp) (by simp) (by simp) (by simp) ?_ ?_ ?_
  ·rintro _ _ ⟨rfl,v',hv',rfl⟩
   exact⟨by simp,by simp,.inl rfl,λi hi=>by obtain rfl:i=0:=(by omega);simp[chH,q09]⟩
  ·intro i hi
   rcases(show i=0∨i=1∨i=2∨i=3 by omega) with rfl|rfl|rfl|rfl<;>simp only[go_sem]
  rintro _ _ ⟨rfl,v,hv,rfl⟩
  simp only[go_sem]
  with_reducible repeat' (first|refine br ?_ ?_<;>intro h e<;>(try simp only[e,go_sem])<;>clear e|rw[q01 (by omega)]|refine sd ?_<;>try simp only[go_sem]|fail)
  exact fin _ _ v _ _ 103601 103602 103603 hv (by simp only[go_sem]) (by simp only[go_sem]) (by decide) (by simp only[go_sem]) (by simp only[go_sem]) (by simp only[go_sem])
 rw[if_neg h1]
 have n1:=h1
 clear h1
 by_cases h2:hd=[98,114,105,110,103]
 ·rw[if_pos h2]
  simp only[qht,go_sem]
  with_reducible repeat' (first|refine br ?_ ?_<;>intro h e<;>(try simp only[e,go_sem,eq_false n0,eq_false n1,eq_true h2,q00 hz0,hg0,Int.reduceToNat,hi0])<;>clear e|rw[q01 (by omega)]|refine sd ?_<;>try simp only[go_sem,eq_false n0,eq_false n1,eq_true h2,q00 hz0,hg0,Int.reduceToNat,hi0]|(first|refine cr (f1 ..) ?_|refine cr (f2 ..) ?_|refine cr (f3 ..) ?_)<;>try simp only[go_sem,eq_false n0,eq_false n1,eq_true h2,q00 hz0,hg0,Int.reduceToNat,hi0]|fail)
  refine q0m (x28 w ⟨3,a,0,0,.zero⟩ hw.x (by simp[Pk.zero])) [0,1,2,3] [] true 43 4 (by simp only[go_sem,Pk.zero,E.zero];first|done|simp[Pk.zero,E.zero]) (by simp only[go_sem];first|done|simp) (by simp) (by simp) (by simp) ?_ ?_ ?_
  ·rintro _ _ ⟨rfl,v',hv',rfl⟩
   exact⟨by simp,by simp,.inl rfl,λi hi=>by obtain rfl:i=0:=(by omega);simp[chH,q09]⟩
  ·intro i hi
   rcases(show i=0∨i=1∨i=2∨i=3 by omega) with rfl|rfl|rfl|rfl<;>simp only[go_sem]
  rintro _ _ ⟨rfl,v,hv,rfl⟩
  simp only[go_sem]
  with_reducible repeat' (first|refine br ?_ ?_<;>intro h e<;>(try simp only[e,go_sem])<;>clear e|rw[q01 (by omega)]|refine sd ?_<;>try simp only[go_sem]|fail)
  exact fin _ _ v _ _ 104301 104302 104303 hv (by simp only[go_sem]) (by simp only[go_sem]) (by decide) (by simp only[go_sem]) (by simp only[go_sem]) (by simp only[go_sem])
 rw[if_neg h2]
 have n2:=h2
 clear h2
 by_cases h3:hd=[108,111,115,101]
 ·rw[if_pos h3]
  simp only[qht,go_sem]
  with_reducible repeat' (first|refine br ?_ ?_<;>intro h e<;>(try simp only[e,go_sem,eq_false n0,eq_false n1,eq_false n2,eq_true h3,q00 hz0,hg0,Int.reduceToNat,hi0])<;>clear e|rw[q01 (by omega)]|refine sd ?_<;>try simp only[go_sem,eq_false n0,eq_false n1,eq_false n2,eq_true h3,q00 hz0,hg0,Int.reduceToNat,hi0]|(first|refine cr (f1 ..) ?_|refine cr (f2 ..) ?_|refine cr (f3 ..) ?_)<;>try simp only[go_sem,eq_false n0,eq_false n1,eq_false n2,eq_true h3,q00 hz0,hg0,Int.reduceToNat,hi0]|fail)
  refine q0m (x28 w ⟨4,a,0,0,.zero⟩ hw.x (by simp[Pk.zero])) [0,1,2,3] [] true 50 4 (by simp only[go_sem,Pk.zero,E.zero];first|done|simp[Pk.zero,E.zero]) (by simp only[go_sem];first|done|simp) (by simp) (by simp) (by simp) ?_ ?_ ?_
  ·rintro _ _ ⟨rfl,v',hv',rfl⟩
   exact⟨by simp,by simp,.inl rfl,λi hi=>by obtain rfl:i=0:=(by omega);simp[chH,q09]⟩
  ·intro i hi
   rcases(show i=0∨i=1∨i=2∨i=3 by omega) with rfl|rfl|rfl|rfl<;>simp only[go_sem]
  rintro _ _ ⟨rfl,v,hv,rfl⟩
  simp only[go_sem]
  with_reducible repeat' (first|refine br ?_ ?_<;>intro h e<;>(try simp only[e,go_sem])<;>clear e|rw[q01 (by omega)]|refine sd ?_<;>try simp only[go_sem]|fail)
  exact fin _ _ v _ _ 105001 105002 105003 hv (by simp only[go_sem]) (by simp only[go_sem]) (by decide) (by simp only[go_sem]) (by simp only[go_sem]) (by simp only[go_sem])
 rw[if_neg h3]
 have n3:=h3
 clear h3
 by_cases h4:hd=[116,119,105,99,101]
 ·rw[if_pos h4]
  simp only[qht,go_sem]
  with_reducible repeat' (first|refine br ?_ ?_<;>intro h e<;>(try simp only[e,go_sem,eq_false n0,eq_false n1,eq_false n2,eq_false n3,eq_true h4,q00 hz0,hg0,Int.reduceToNat,hi0])<;>clear e|rw[q01 (by omega)]|refine sd ?_<;>try simp only[go_sem,eq_false n0,eq_false n1,eq_false n2,eq_false n3,eq_true h4,q00 hz0,hg0,Int.reduceToNat,hi0]|(first|refine cr (f1 ..) ?_|refine cr (f2 ..) ?_|refine cr (f3 ..) ?_)<;>try simp only[go_sem,eq_false n0,eq_false n1,eq_false n2,eq_false n3,eq_true h4,q00 hz0,hg0,Int.reduceToNat,hi0]|fail)
  refine q0m (x28 w ⟨5,a,0,0,.zero⟩ hw.x (by simp[Pk.zero])) [0,1,2,3] [] true 57 4 (by simp only[go_sem,Pk.zero,E.zero];first|done|simp[Pk.zero,E.zero]) (by simp only[go_sem];first|done|simp) (by simp) (by simp) (by simp) ?_ ?_ ?_
  ·rintro _ _ ⟨rfl,v',hv',rfl⟩
   exact⟨by simp,by simp,.inl rfl,λi hi=>by obtain rfl:i=0:=(by omega);simp[chH,q09]⟩
  ·intro i hi
   rcases(show i=0∨i=1∨i=2∨i=3 by omega) with rfl|rfl|rfl|rfl<;>simp only[go_sem]
  rintro _ _ ⟨rfl,v,hv,rfl⟩
  simp only[go_sem]
  with_reducible repeat' (first|refine br ?_ ?_<;>intro h e<;>(try simp only[e,go_sem])<;>clear e|rw[q01 (by omega)]|refine sd ?_<;>try simp only[go_sem]|fail)
  exact fin _ _ v _ _ 105701 105702 105703 hv (by simp only[go_sem]) (by simp only[go_sem]) (by decide) (by simp only[go_sem]) (by simp only[go_sem]) (by simp only[go_sem])
 rw[if_neg h4]
 have n4:=h4
 clear h4
 by_cases h5:hd=[102,111,114,103,101]
 ·rw[if_pos h5]
  simp only[qht,go_sem]
  obtain⟨t,htd⟩:∃t,t=(if([102,111,114,103,101,32]:B).isPrefixOf line then line.drop ([102,111,114,103,101,32]:B).length else line):=⟨_,rfl⟩
  have f4:=c100 line [102,111,114,103,101,32] (by omega) (by simp)
  rw[←htd] at f4
  have htl:t.length≤1000:=by rw[htd];split<;>first|omega|(simp only[List.length_drop];omega)
  have hrd:q14 t=q14 (line.drop 6):=by rw[htd];exact qgl (by rw[hc,←hws,h5])
  have f5:=c99 t (by omega)
  have hpt:=qa0 t (by omega)
  rw[←hrd]
  cases hp:q14 t with
  | none =>
    rw[hp] at f5
    simp only[Option.getD_none,Option.isSome_none,Pk.zero,E.zero] at f5
    simp only[Option.getD_none,qf0]
    with_reducible repeat' (first|refine br ?_ ?_<;>intro h e<;>(try simp only[e,go_sem,eq_false n0,eq_false n1,eq_false n2,eq_false n3,eq_false n4,eq_true h5,q00 hz0,hg0,Int.reduceToNat,hi0])<;>clear e|rw[q01 (by omega)]|refine sd ?_<;>try simp only[go_sem,eq_false n0,eq_false n1,eq_false n2,eq_false n3,eq_false n4,eq_true h5,q00 hz0,hg0,Int.reduceToNat,hi0]|(first|refine cr (f1 ..) ?_|refine cr (f4 ..) ?_|refine cr (f5 ..) ?_)<;>try simp only[go_sem,eq_false n0,eq_false n1,eq_false n2,eq_false n3,eq_false n4,eq_true h5,q00 hz0,hg0,Int.reduceToNat,hi0]|fail)
    exact fin _ _ w _ _ 1 2 3 rfl (by simp only[go_sem]) (by simp only[go_sem]) (by decide) (by simp only[go_sem]) (by simp only[go_sem]) (by simp only[go_sem])
  | some p =>
    rw[hp] at f5 hpt
    simp only[Option.getD_some,Option.isSome_some] at f5 hpt ⊢
    with_reducible repeat' (first|refine br ?_ ?_<;>intro h e<;>(try simp only[e,go_sem,eq_false n0,eq_false n1,eq_false n2,eq_false n3,eq_false n4,eq_true h5,q00 hz0,hg0,Int.reduceToNat,hi0])<;>clear e|rw[q01 (by omega)]|refine sd ?_<;>try simp only[go_sem,eq_false n0,eq_false n1,eq_false n2,eq_false n3,eq_false n4,eq_true h5,q00 hz0,hg0,Int.reduceToNat,hi0]|(first|refine cr (f1 ..) ?_|refine cr (f4 ..) ?_|refine cr (f5 ..) ?_)<;>try simp only[go_sem,eq_false n0,eq_false n1,eq_false n2,eq_false n3,eq_false n4,eq_true h5,q00 hz0,hg0,Int.reduceToNat,hi0]|fail)
    refine q0m (x28 w ⟨6,0,0,0,p⟩ hw.x (by simp only;omega)) [0,1,2,3] [] true 70 4 (by simp only[go_sem,Pk.zero,E.zero];first|done|simp[Pk.zero,E.zero]) (by simp only[go_sem];first|done|simp) (by simp) (by simp) (by simp) ?_ ?_ ?_
    ·rintro _ _ ⟨rfl,v',hv',rfl⟩
     exact⟨by simp,by simp,.inl rfl,λi hi=>by obtain rfl:i=0:=(by omega);simp[chH,q09]⟩
    ·intro i hi
     rcases(show i=0∨i=1∨i=2∨i=3 by omega) with rfl|rfl|rfl|rfl<;>simp only[go_sem]
    rintro _ _ ⟨rfl,v,hv,rfl⟩
    simp only[go_sem]
    with_reducible repeat' (first|refine br ?_ ?_<;>intro h e<;>(try simp only[e,go_sem])<;>clear e|rw[q01 (by omega)]|refine sd ?_<;>try simp only[go_sem]|fail)
    exact fin _ _ v _ _ 107001 107002 107003 hv (by simp only[go_sem]) (by simp only[go_sem]) (by decide) (by simp only[go_sem]) (by simp only[go_sem]) (by simp only[go_sem])
 rw[if_neg h5]
 have n5:=h5
 clear h5
 by_cases h6:hd=[99,97,108,109]
 ·rw[if_pos h6]
  simp only[qht,go_sem]
  with_reducible repeat' (first|refine br ?_ ?_<;>intro h e<;>(try simp only[e,go_sem,eq_false n0,eq_false n1,eq_false n2,eq_false n3,eq_false n4,eq_false n5,eq_true h6,q00 hz0,hg0,Int.reduceToNat,hi0])<;>clear e|rw[q01 (by omega)]|refine sd ?_<;>try simp only[go_sem,eq_false n0,eq_false n1,eq_false n2,eq_false n3,eq_false n4,eq_false n5,eq_true h6,q00 hz0,hg0,Int.reduceToNat,hi0]|(first|refine cr (f1 ..) ?_|refine cr (f2 ..) ?_|refine cr (f3 ..) ?_)<;>try simp only[go_sem,eq_false n0,eq_false n1,eq_false n2,eq_false n3,eq_false n4,eq_false n5,eq_true h6,q00 hz0,hg0,Int.reduceToNat,hi0]|fail)
  refine q0m (c101 w hw.x) [0,1,2,3] [] true 74 4 (by simp only[go_sem,Pk.zero,E.zero];first|done|simp[Pk.zero,E.zero]) (by simp only[go_sem];first|done|simp) (by simp) (by simp) (by simp) ?_ ?_ ?_
  ·rintro _ _ ⟨rfl,v',hv',rfl⟩
   exact⟨by simp,by simp,.inl rfl,λi hi=>by obtain rfl:i=0:=(by omega);simp[chH,q09]⟩
  ·intro i hi
   rcases(show i=0∨i=1∨i=2∨i=3 by omega) with rfl|rfl|rfl|rfl<;>simp only[go_sem]
  rintro _ _ ⟨rfl,v,hv,rfl⟩
  simp only[go_sem]
  with_reducible repeat' (first|refine br ?_ ?_<;>intro h e<;>(try simp only[e,go_sem])<;>clear e|rw[q01 (by omega)]|refine sd ?_<;>try simp only[go_sem]|fail)
  exact fin _ _ v _ _ 107401 107402 107403 hv (by simp only[go_sem]) (by simp only[go_sem]) (by decide) (by simp only[go_sem]) (by simp only[go_sem]) (by simp only[go_sem])
 rw[if_neg h6]
 have n6:=h6
 clear h6
 by_cases h7:hd=[109,97,112]
 ·rw[if_pos h7]
  simp only[qht,go_sem]
  have hel:∀p∈w.door.map,((λp:Pair=>dec p.port++(32::p.ins.text)) p).length≤200:=λp hp=>by
   have l1:=q13 p.port;have l2:=q3e p.ins;simp;omega
  obtain⟨LL,hLL⟩:∃LL:Nat→List B,LL=λk=>(w.door.map.take k).map (λp:Pair=>dec p.port++(32::p.ins.text)):=⟨_,rfl⟩
  have hL0:LL 0=[]:=by rw[hLL];simp
  have hLn:LL w.door.map.length=w.door.map.map (λp:Pair=>dec p.port++(32::p.ins.text)):=by rw[hLL];simp
  have hLl:∀k,(LL k).length≤20:=λk=>by rw[hLL];simp only[List.length_map,List.length_take];omega
  have hLs:∀k (h:k<w.door.map.length),LL (k+1)=LL k++[(λp:Pair=>dec p.port++(32::p.ins.text)) w.door.map[k]]:=λk h=>by
   rw[hLL]
   simp only
   rw[List.take_add_one,zE h,List.map_append]
   rfl
  have hLw:(LL w.door.map.length).length=w.door.map.length:=by rw[hLn,List.length_map]
  clear hLL
  with_reducible repeat' (first|refine br ?_ ?_<;>intro h e<;>(try simp only[e,go_sem,eq_false n0,eq_false n1,eq_false n2,eq_false n3,eq_false n4,eq_false n5,eq_false n6,eq_true h7,q00 hz0,hg0,Int.reduceToNat,hi0])<;>clear e|rw[q01 (by omega)]|refine sd ?_<;>try simp only[go_sem,eq_false n0,eq_false n1,eq_false n2,eq_false n3,eq_false n4,eq_false n5,eq_false n6,eq_true h7,q00 hz0,hg0,Int.reduceToNat,hi0]|(first|refine cr (f1 ..) ?_|refine cr (f2 ..) ?_|refine cr (f3 ..) ?_)<;>try simp only[go_sem,eq_false n0,eq_false n1,eq_false n2,eq_false n3,eq_false n4,eq_false n5,eq_false n6,eq_true h7,q00 hz0,hg0,Int.reduceToNat,hi0]|fail)
  refine q0v (λk:Nat=>⟨q0i [(0,.pv 0 0),(8,.own 1077 (LL k).length),(82,.sl 3 (w.door.map.map Pair.row)),(83,.int .i64 w.door.map.length),(84,.int .i64 (k:Int))],q0c [(0,.var 33 [.own 2 w.convs.length,.sl 3 (w.door.map.map Pair.row),.own 1 w.door.flows.length,.own 3 w.nets.length]),(1,.arr 169 8 (w.door.flows.map Flw.row)),(2,.arr 69 10 (w.convs.map Conv.row)),(3,.arr 65 7 (w.nets.map Pk.row)),(1077,.arr 9 1 ((LL k).map λx=>[.str x]))]⟩) (λk=>w.door.map.length - k) (λk=>k≤w.door.map.length) 0 (by rw[hL0];exact(leQ [])) (Nat.zero_le _) ?_
  intro k hk
  simp only[go_sem]
  by_cases hkl:(k:Int)<w.door.map.length
  ·have hil:k<w.door.map.length:=by omega
   have hg:w.door.map.getD k default=w.door.map[k]:=by simp[List.getD,hil]
   have hm:=List.getElem_mem hil
   have hst:=hLs k hil
   have hJl:=hLl k
   try simp only at hst
   have hpo:=(q5w hmk hil).1
   have g1:=c49 w.door.map[k].port (by omega)
   have g2:=qv4 w.door.map[k].ins.a w.door.map[k].ins.p
   have l1:=q13 w.door.map[k].port
   have l2:=q3e w.door.map[k].ins
   rw[show E.text ⟨w.door.map[k].ins.a,w.door.map[k].ins.p⟩=w.door.map[k].ins.text from rfl] at g2
   generalize w.door.map[k]=p at *
   generalize dec p.port=x at *
   generalize p.ins.text=y at *
   simp only[eq_true hkl,go_sem]
   with_reducible repeat' (first|rw[q01 (by omega)];try simp only[go_sem,q00 hil,hg,zA,zC,zN,zZ,zP,zU]|refine br ?_ ?_<;>intro h e<;>(try simp only[e,go_sem,q00 hil,hg,zA,zC,zN,zZ,zP,zU])<;>clear e|refine sd ?_<;>try simp only[go_sem,q00 hil,hg,zA,zC,zN,zZ,zP,zU]|(first|refine cr (g1 ..) ?_|refine cr (g2 ..) ?_)<;>try simp only[go_sem,q00 hil,hg,zA,zC,zN,zZ,zP,zU]|fail)
   all_goals first
    | (refine⟨k+1,by omega,by omega, ?_⟩;simp only[hst];refine leN [(1077,1098)] ?_ ?_ (by simp[q0o]) (by simp only[go_sem])<;>simp only[go_sem]<;>(try simp);done)
    | trace_state
  ·simp only[eq_false hkl,go_sem]
   obtain rfl:k=w.door.map.length:=by omega
   have fc:=o103 (LL w.door.map.length) (hLl _) (λx hx=>by
    rw[hLn] at hx
    obtain⟨p,hp,rfl⟩:=List.mem_map.1 hx
    exact Nat.le_trans (hel p hp) (by decide))
   rw[hLw] at fc ⊢
   rw[hLn] at fc ⊢
   with_reducible repeat' (first|refine br ?_ ?_<;>intro h e<;>(try simp only[e,go_sem])<;>clear e|rw[q01 (by omega)]|refine sd ?_<;>try simp only[go_sem]|fail)
   refine q25 fc [1077] [] 101 0 (by simp only[go_sem];first|done|simp) (by simp only[go_sem];first|done|simp) (by simp) (by simp) (by rintro _ _ ⟨rfl,rfl⟩;simp) (by intro i hi;omega) ?_
   rintro _ _ ⟨rfl,rfl⟩
   simp only[go_sem]
   with_reducible repeat' (first|refine br ?_ ?_<;>intro h e<;>(try simp only[e,go_sem])<;>clear e|rw[q01 (by omega)]|refine sd ?_<;>try simp only[go_sem]|fail)
   exact fin _ _ w _ _ 1 2 3 rfl (by simp only[go_sem]) (by simp only[go_sem]) (by decide) (by simp only[go_sem]) (by simp only[go_sem]) (by simp only[go_sem])
 rw[if_neg h7]
 have n7:=h7
 clear h7
 by_cases h8:hd=[110,101,116,115]
 ·rw[if_pos h8]
  simp only[qht,go_sem]
  have hel:∀p∈w.nets,(q0f p).length≤200:=λp hp=>by
   have l1:=q2h p;have l2:=(hw.net p hp).pk.len;omega
  obtain⟨LL,hLL⟩:∃LL:Nat→List B,LL=λk=>(w.nets.take k).map q0f:=⟨_,rfl⟩
  have hL0:LL 0=[]:=by rw[hLL];simp
  have hLn:LL w.nets.length=w.nets.map q0f:=by rw[hLL];simp
  have hLl:∀k,(LL k).length≤20:=λk=>by rw[hLL];simp only[List.length_map,List.length_take];omega
  have hLs:∀k (h:k<w.nets.length),LL (k+1)=LL k++[q0f w.nets[k]]:=λk h=>by
   rw[hLL]
   simp only
   rw[List.take_add_one,zE h,List.map_append]
   rfl
  have hLw:(LL w.nets.length).length=w.nets.length:=by rw[hLn,List.length_map]
  clear hLL
  with_reducible repeat' (first|refine br ?_ ?_<;>intro h e<;>(try simp only[e,go_sem,eq_false n0,eq_false n1,eq_false n2,eq_false n3,eq_false n4,eq_false n5,eq_false n6,eq_false n7,eq_true h8,q00 hz0,hg0,Int.reduceToNat,hi0])<;>clear e|rw[q01 (by omega)]|refine sd ?_<;>try simp only[go_sem,eq_false n0,eq_false n1,eq_false n2,eq_false n3,eq_false n4,eq_false n5,eq_false n6,eq_false n7,eq_true h8,q00 hz0,hg0,Int.reduceToNat,hi0]|(first|refine cr (f1 ..) ?_|refine cr (f2 ..) ?_|refine cr (f3 ..) ?_)<;>try simp only[go_sem,eq_false n0,eq_false n1,eq_false n2,eq_false n3,eq_false n4,eq_false n5,eq_false n6,eq_false n7,eq_true h8,q00 hz0,hg0,Int.reduceToNat,hi0]|fail)
  refine q0v (λk:Nat=>⟨q0i [(0,.pv 0 0),(11,.own 1104 (LL k).length),(108,.own 3 w.nets.length),(109,.int .i64 w.nets.length),(110,.int .i64 (k:Int))],q0c [(0,.var 33 [.own 2 w.convs.length,.sl 3 (w.door.map.map Pair.row),.own 1 w.door.flows.length,.own 3 w.nets.length]),(1,.arr 169 8 (w.door.flows.map Flw.row)),(2,.arr 69 10 (w.convs.map Conv.row)),(3,.arr 65 7 (w.nets.map Pk.row)),(1104,.arr 9 1 ((LL k).map λx=>[.str x]))]⟩) (λk=>w.nets.length - k) (λk=>k≤w.nets.length) 0 (by rw[hL0];exact(leQ [])) (Nat.zero_le _) ?_
  intro k hk
  simp only[go_sem]
  by_cases hkl:(k:Int)<w.nets.length
  ·have hil:k<w.nets.length:=by omega
   have hg:w.nets.getD k default=w.nets[k]:=by simp[List.getD,hil]
   have hm:=List.getElem_mem hil
   have hst:=hLs k hil
   have hJl:=hLl k
   try simp only at hst
   have l1:=q2h w.nets[k]
   have l2:=(hw.net _ hm).pk.len
   have g1:=qmy w.nets[k] (by omega)
   generalize w.nets[k]=p at *
   generalize q0f p=x at *
   simp only[eq_true hkl,go_sem]
   with_reducible repeat' (first|rw[q01 (by omega)];try simp only[go_sem,q00 hil,hg,zA,zC,zN,zZ,zP,zU]|refine br ?_ ?_<;>intro h e<;>(try simp only[e,go_sem,q00 hil,hg,zA,zC,zN,zZ,zP,zU])<;>clear e|refine sd ?_<;>try simp only[go_sem,q00 hil,hg,zA,zC,zN,zZ,zP,zU]|(first|refine cr (g1 ..) ?_)<;>try simp only[go_sem,q00 hil,hg,zA,zC,zN,zZ,zP,zU]|fail)
   all_goals first
    | (refine⟨k+1,by omega,by omega, ?_⟩;simp only[hst];refine leN [(1104,1118)] ?_ ?_ (by simp[q0o]) (by simp only[go_sem])<;>simp only[go_sem]<;>(try simp);done)
    | trace_state
  ·simp only[eq_false hkl,go_sem]
   obtain rfl:k=w.nets.length:=by omega
   have fc:=o103 (LL w.nets.length) (hLl _) (λx hx=>by
    rw[hLn] at hx
    obtain⟨p,hp,rfl⟩:=List.mem_map.1 hx
    exact Nat.le_trans (hel p hp) (by decide))
   rw[hLw] at fc ⊢
   rw[hLn] at fc ⊢
   with_reducible repeat' (first|refine br ?_ ?_<;>intro h e<;>(try simp only[e,go_sem])<;>clear e|rw[q01 (by omega)]|refine sd ?_<;>try simp only[go_sem]|fail)
   refine q25 fc [1104] [] 121 0 (by simp only[go_sem];first|done|simp) (by simp only[go_sem];first|done|simp) (by simp) (by simp) (by rintro _ _ ⟨rfl,rfl⟩;simp) (by intro i hi;omega) ?_
   rintro _ _ ⟨rfl,rfl⟩
   simp only[go_sem]
   with_reducible repeat' (first|refine br ?_ ?_<;>intro h e<;>(try simp only[e,go_sem])<;>clear e|rw[q01 (by omega)]|refine sd ?_<;>try simp only[go_sem]|fail)
   exact fin _ _ w _ _ 1 2 3 rfl (by simp only[go_sem]) (by simp only[go_sem]) (by decide) (by simp only[go_sem]) (by simp only[go_sem]) (by simp only[go_sem])
 rw[if_neg h8]
 have n8:=h8
 clear h8
 simp only[qht,go_sem]
 with_reducible repeat' (first|refine br ?_ ?_<;>intro h e<;>(try simp only[e,go_sem,eq_false n0,eq_false n1,eq_false n2,eq_false n3,eq_false n4,eq_false n5,eq_false n6,eq_false n7,eq_false n8,q00 hz0,hg0,Int.reduceToNat,hi0])<;>clear e|rw[q01 (by omega)]|refine sd ?_<;>try simp only[go_sem,eq_false n0,eq_false n1,eq_false n2,eq_false n3,eq_false n4,eq_false n5,eq_false n6,eq_false n7,eq_false n8,q00 hz0,hg0,Int.reduceToNat,hi0]|(first|refine cr (f1 ..) ?_|refine cr (f2 ..) ?_|refine cr (f3 ..) ?_)<;>try simp only[go_sem,eq_false n0,eq_false n1,eq_false n2,eq_false n3,eq_false n4,eq_false n5,eq_false n6,eq_false n7,eq_false n8,q00 hz0,hg0,Int.reduceToNat,hi0]|fail)
 exact fin _ _ w _ _ 1 2 3 rfl (by simp only[go_sem]) (by simp only[go_sem]) (by decide) (by simp only[go_sem]) (by simp only[go_sem]) (by simp only[go_sem])
def adr (u:Bool):V:=bif u then .pv 0 0 else .nilp
def byV (s:B):List (List V):=s.map λb=>[.int .u8 (b.toNat:Int)]
def q1q (u:Bool) (s:B):List Hs:=[.var 89 [adr u,.own 1 s.length],.arr 5 1 (byV s)]
theorem qag:Go.Proofs.Lays.n240 Tryz.prog qju:={ qjj with }
theorem e96:entr Tryz.prog 96=true:=by kernel_rfl
theorem o96 (u:Bool) (s:B):FnP Tryz.prog G 96 2 (q1q u s) [.pv 0 0] (λr o=>r=.tup []∧o=q1q true s) where
 en:=e96
 ne:=⟨_,_,rfl,rfl⟩
 run:=λW ρ ext us hg hlt hno hng r hargs=>by
  obtain⟨p0,rfl,hd⟩:=qa6 hargs
  have hB:BaseOk G ⟨W,blocks ρ (chH (q1q u s)),ext,2,ρ⟩:=⟨hlt,hno,hg,hng⟩
  have h0:chH (q1q u s) 0=.var 89 [adr u,.own 1 s.length]:=rfl
  have hp:p0=.pointer (some ⟨(ρ 0).blk,(ρ 0).off,none⟩):=by simpa only[Den,Den2,Den1,Den0,h0,Nat.add_zero] using hd
  have hch:=r.chunk 0
  rw[h0] at hch
  obtain⟨hnil,cs,hb,⟨hoff,hsz⟩,hcell⟩:=hch
  obtain⟨p,hp0,hp1,hpd⟩:=hcell 0 _ rfl
  obtain⟨v,hv0,hv1,hvd⟩:=hcell 1 _ rfl
  have hsz2:cs.size=2:=hsz.symm
  rw[hoff] at hp hp0 hv0
  subst hp
  have c0:W.cell? ⟨(ρ 0).blk,0,none⟩=some p:=by simpa[World.cell?,hb] using hp0
  have hsh:W.shape? (ρ 0).blk=some (89,2):=by simp[World.shape?,hb,hsz2]
  have hfz:W.frozen? ⟨(ρ 0).blk,0,none⟩=false:=by simp[World.frozen?,hb]
  have dtup:∀(w':World) (O:Nat→Prop) (h:Nat→Hs),Den w' O ρ h (.tup []) (.tuple #[]):=λw' O h=>⟨[],rfl,rfl,λj v x hv=>by simp at hv⟩
  cases u
  ·have hpn:p=.pointer none:=by
    have:Imm W (owns ⟨W,blocks ρ (chH (q1q false s)),ext,2,ρ⟩ ρ (chH (q1q false s))) .nilp p:=hpd
    cases this;rfl
   subst hpn
   refine(Any.Builder_copyCheck_fresh qag qb7.toX72 (ρ 0).blk W c0 hsh hfz).mono λe w' ⟨he,hw⟩=>?_
   obtain⟨k1,k2,k3,k4,k5⟩:=q1b (ρ 0).blk [.pointer (some ⟨(ρ 0).blk,0,none⟩)] 0 W
   obtain⟨cs',m1,m2,m3⟩:=q1a (ρ 0).blk 89 (0,0) [.pointer (some ⟨(ρ 0).blk,0,none⟩)] 0 W cs hb (by simp[hsz2])
   have hw':w'=W.setCells (ρ 0).blk 0 [.pointer (some ⟨(ρ 0).blk,0,none⟩)]:=hw
   rw[←hw'] at k1 k2 k3 k4 k5 m1
   have ht:=r.write hB (c:=0) (s:=.var 89 [.pv 0 0,.own 1 s.length]) (by rw[h0];rfl) hnil k1 k2 k3 k4 k5 (.inr (.inr ⟨rfl,.inr (.inl ⟨_,_,_,_,h0,rfl⟩)⟩)) λO' h' hden himm=>by
    refine⟨hnil,cs',m1,⟨hoff,by simp[m2,hsz2]⟩,λj x hx=>?_⟩
    rw[hoff,m3]
    match j,hx with
    | 0,hx =>
      cases hx
      refine⟨.pointer (some ⟨(ρ 0).blk,0,none⟩),by simp,rfl,hden _ _ ?_⟩
      simp only[Den1,Den0,h0,hoff,Nat.add_zero]
    | 1,hx =>
      cases hx
      exact⟨v,by simpa using hv0,hv1,hden _ _ hvd⟩
    | j+2,hx=>simp at hx
   have hup:upH (chH (q1q false s)) [(0,.var 89 [.pv 0 0,.own 1 s.length])]=chH (q1q true s):=by
    funext c
    match c with
    | 0=>rfl
    | 1=>rfl
    | c+2=>simp[upH,chH,q1q]
   have hr:=ht.rel
   rw[hup] at hr
   exact⟨_,_,_,ρ,he,⟨rfl,rfl⟩,hr,dtup _ _ _⟩
  ·have hps:p=.pointer (some ⟨(ρ 0).blk,0,none⟩):=by
    have:Den1 W (owns ⟨W,blocks ρ (chH (q1q true s)),ext,2,ρ⟩ ρ (chH (q1q true s))) ρ (chH (q1q true s)) (.pv 0 0) p:=hpd
    simpa only[Den1,Den0,h0,hoff,Nat.add_zero] using this
   subst hps
   refine(Any.Builder_copyCheck_used qag qb7.toX72 (ρ 0).blk W c0).mono λe w' ⟨he,hw⟩=>?_
   subst hw
   exact⟨_,_,_,ρ,he,⟨rfl,rfl⟩,r,dtup _ _ _⟩
theorem qkx (s t:B):byV (s++t)=byV s++byV t:=by simp[byV]
theorem q6e (s:B):(byV s).length=s.length:=by simp[byV]
def ic47:IC:=sR [oP 4 (.mv (.c i0)),oP 5 (.mv (.c .nile))] (sR [mV 6 0,oP 7 (.call 96 [.t 6])] (sR [mV 8 0,mV 9 0,oP 10 (.nilc (.t 9)),fD 11 1 10,lD 12 1 11,mV 13 1,oP 14 (.aps 5 (.t 12) (.t 13)),oP 15 (.nilc (.t 8)),fD 16 1 15,nP (.sto 1 (.t 16) (.t 14))] (sR [mV 17 1,oP 18 (.lens (.t 17)),mV 4 18,oP 5 (.mv (.c .nile))] .ret)))
theorem dg47:Dg Tryz.prog 47 Tryz.f47 ic47 [(.t 4),(.t 5)]:=⟨Tryz.func47,by kernel_rfl,by kernel_rfl⟩
theorem o47 (u:Bool) (s t:B) (hl:s.length+t.length≤2000000):FnP Tryz.prog G 47 1 (q1q u s) [.pv 0 0,.str t] (λr o=>r=.tup [.int .i64 (t.length:Int),.nile]∧o=q1q true (s++t)):=by
 refine mP dg47 Tryz.ntmps47 ⟨_,_,rfl,rfl⟩ ?_
 have hb:s.map (λb=>[V.int .u8 (b.toNat:Int)])=byV s:=rfl
 have hb2:t.map (λb=>[V.int .u8 (b.toNat:Int)])=byV t:=rfl
 cases u
 ·simp only[ic47,go_sem,q1q,adr,cond_true,cond_false]
  refine q0m (o96 false s) [0,1] [] true 7 2 (by simp only[go_sem,q1q,adr,cond_true,cond_false];first|done|simp) (by simp only[go_sem,q1q,adr,cond_true,cond_false];first|done|simp) (by simp) (by simp) (by simp) ?_ ?_ ?_
  ·rintro _ _ ⟨rfl,rfl⟩
   exact⟨by simp[q1q],by simp[q1q],.inl rfl,λi hi=>by rcases(show i=0∨i=1 by omega) with rfl|rfl<;>simp[chH,q09,q1q]⟩
  ·intro i hi;rcases(show i=0∨i=1 by omega) with rfl|rfl<;>simp only[go_sem]
  rintro _ _ ⟨rfl,rfl⟩
  simp only[go_sem,q1q,adr,cond_true,hb2]
  refine effG ⟨q6e s,by rw[q6e];exact hl⟩ ?_
  simp only[go_sem,q6e]
  with_reducible repeat' (first|refine br ?_ ?_<;>intro h e<;>(try simp only[e,go_sem])<;>clear e|rw[q01 (by omega)]|refine sd ?_<;>try simp only[go_sem]|fail)
  refine q1m (.tup [.int .i64 (t.length:Int),.nile]) (q1q true (s++t)) [(1,1014)] ?_ ⟨rfl,rfl⟩ ?_ (by simp[q1c,q0o,q1q]) (by simp only[go_sem,q1q,adr,cond_true])
  ·simp only[go_sem]
  ·simp only[go_sem,q1q,adr,cond_true,qkx,zA]
   try simp
 ·simp only[ic47,go_sem,q1q,adr,cond_true,cond_false]
  refine q0m (o96 true s) [0,1] [] true 7 2 (by simp only[go_sem,q1q,adr,cond_true,cond_false];first|done|simp) (by simp only[go_sem,q1q,adr,cond_true,cond_false];first|done|simp) (by simp) (by simp) (by simp) ?_ ?_ ?_
  ·rintro _ _ ⟨rfl,rfl⟩
   exact⟨by simp[q1q],by simp[q1q],.inl rfl,λi hi=>by rcases(show i=0∨i=1 by omega) with rfl|rfl<;>simp[chH,q09,q1q]⟩
  ·intro i hi;rcases(show i=0∨i=1 by omega) with rfl|rfl<;>simp only[go_sem]
  rintro _ _ ⟨rfl,rfl⟩
  simp only[go_sem,q1q,adr,cond_true,hb2]
  refine effG ⟨q6e s,by rw[q6e];exact hl⟩ ?_
  simp only[go_sem,q6e]
  with_reducible repeat' (first|refine br ?_ ?_<;>intro h e<;>(try simp only[e,go_sem])<;>clear e|rw[q01 (by omega)]|refine sd ?_<;>try simp only[go_sem]|fail)
  refine q1m (.tup [.int .i64 (t.length:Int),.nile]) (q1q true (s++t)) [(1,1014)] ?_ ⟨rfl,rfl⟩ ?_ (by simp[q1c,q0o,q1q]) (by simp only[go_sem,q1q,adr,cond_true])
  ·simp only[go_sem]
  ·simp only[go_sem,q1q,adr,cond_true,qkx,zA]
   try simp
set_option maxHeartbeats 2000000 in
set_option maxRecDepth 100000 in
theorem m50 (b g cap:Nat) (cur:Array Value) (p:Value) (l:List UInt8) (w:World) (h0:l≠[]) (hll:l.length≤2000000) (hcap:l.length≤cap)
 (hbk:w.heap[b]?=some (.cells #[p,.slice (some ⟨g,0,none⟩) l.length cap] 89 (0,0))) (hg:w.heap[g]?=some (.cells cur 5 (0,0))) (hcs:cur.size=cap)
 (hcell:∀j x,l[j]?=some x→w.cell? ⟨g,j,none⟩=some (.int .u8 x.toNat)) :
 Calls Tryz.prog 50 #[.pointer (some ⟨b,0,none⟩)] w λe w'=>e=.returned (.string ⟨l.toArray⟩)∧w'=w.drew.freeze ⟨g,0,none⟩ l.length:=by
 have L:=Tryz.lays169
 have X:=Tryz.Builder_Extra_169
 have hl0:l.length≠0:=by simpa using h0
 have c1:w.drew.cell? ⟨b,1,none⟩=some (.slice (some ⟨g,0,none⟩) l.length cap):=by
  have:w.drew.heap[b]?=some (.cells #[p,.slice (some ⟨g,0,none⟩) l.length cap] 89 (0,0)):=hbk
  rw[Lib.cell_of_heap this];rfl
 have hSD:(Builtin.unsafeSliceData_ #[46] 146 #[.slice (some ⟨g,0,none⟩) l.length cap]).run Tryz.prog w.drew=.ok (.pointer (some ⟨g,0,none⟩)) w.drew :=
  Lib.run_unsafeSliceData_row _ _ _ _ _ _ (by omega)
 have hUS:(Builtin.unsafeString_ #[146,3] 9 #[.pointer (some ⟨g,0,none⟩),.int .i64 l.length]).run Tryz.prog w.drew=.ok (.string ⟨l.toArray⟩) (w.drew.freeze ⟨g,0,none⟩ l.length):=by
  refine Lib.run_unsafeString_row w.drew 146 3 9 5 L.t127 X.cellsByte g cur.size (by have hg':w.drew.heap[g]?=some (.cells cur 5 (0,0)):=hg;simp[World.shape?,hg']) l h0 (by omega) (by omega) ?_
  intro j x hx
  have h1:=hcell j x hx
  have h2:((⟨g,0,none⟩:Addr).add j)=⟨g,j,none⟩:=by
   cases j<;>simp[Addr.add]
  rw[h2]
  exact h1
 have mixed:=L.mixed
 have t72:=L.t72;have a72:=L.a72;have z72:=L.z72;have v72:=L.v72;have u72:=run_underlying L.t72
 have t70:=L.t70;have a70:=L.a70;have z70:=L.z70;have v70:=L.v70;have u70:=run_underlying L.t70
 have t37:=L.t37;have a37:=L.a37;have z37:=L.z37;have v37:=L.v37;have u37:=run_underlying L.t37
 have t127:=L.t127;have a127:=L.a127;have z127:=L.z127;have v127:=L.v127;have u127:=run_underlying L.t127
 have t3:=L.t3;have a3:=L.a3;have z3:=L.z3;have v3:=L.v3;have u3:=run_underlying L.t3
 have t9:=L.t9;have a9:=L.a9;have z9:=L.z9;have v9:=L.v9;have u9:=run_underlying L.t9
 have t5:=X.t5;have a5:=X.a5;have z5:=X.z5;have v5:=X.v5;have u5:=run_underlying X.t5
 go_enter Tryz.func50,Tryz.ntmps50
 go_wp2
 go_region_o
 all_goals(go_wp2;go_ret;exact⟨rfl,rfl⟩)
theorem e50:entr Tryz.prog 50=true:=by kernel_rfl
theorem o50 (s:B) (h0:s≠[]) (hl:s.length≤2000000):FnP Tryz.prog G 50 0 (q1q true s) [.pv 0 0] (λr o=>r=.str s∧o=[]) where
 en:=e50
 ne:=⟨_,_,rfl,rfl⟩
 run:=λW ρ ext us hg hlt hno hng r hargs=>by
  obtain⟨p0,rfl,hd⟩:=qa6 hargs
  have h0':chH (q1q true s) 0=.var 89 [.pv 0 0,.own 1 s.length]:=rfl
  have h1':chH (q1q true s) 1=.arr 5 1 (byV s):=rfl
  have hp:p0=.pointer (some ⟨(ρ 0).blk,(ρ 0).off,none⟩):=by simpa only[Den,Den2,Den1,Den0,h0',Nat.add_zero] using hd
  have hch:=r.chunk 0
  rw[h0'] at hch
  obtain⟨hnil,cs,hb,⟨hoff,hsz⟩,hcell⟩:=hch
  obtain⟨p,hp0,hp1,hpd⟩:=hcell 0 _ rfl
  obtain⟨v,hv0,hv1,hvd⟩:=hcell 1 _ rfl
  have hsz2:cs.size=2:=hsz.symm
  rw[hoff] at hp hp0 hv0
  subst hp
  have hc1:=r.chunk 1
  rw[h1'] at hc1
  rcases hc1 with⟨_,hrn,_⟩|⟨hnil1,cs1,hb1,⟨_,hex⟩,hlc,hlen,hcells⟩
  ·exact absurd (List.map_eq_nil_iff.1 hrn) h0
  obtain⟨hoff1,hsz1⟩:=hex rfl
  rw[q6e] at hlc
  have hv:v=.slice (some ⟨(ρ 1).blk,0,none⟩) s.length (ρ 1).cap:=by
   have:Den1 W (owns ⟨W,blocks ρ (chH (q1q true s)),ext,0,ρ⟩ ρ (chH (q1q true s))) ρ (chH (q1q true s)) (.own 1 s.length) v:=hvd
   simp only[Den1,Den0,h1'] at this
   rw[this]
   simp[VL.Loc.sl,VL.Loc.addr,hnil1,hoff1]
  have hcs:cs=#[p,v]:=by
   apply Array.ext_getElem?
   intro i
   match i with
   | 0=>simpa using hp0
   | 1=>simpa using hv0
   | i+2=>rw[Array.getElem?_eq_none (by omega),Array.getElem?_eq_none (by simp)]
  subst hcs
  subst hv
  have hbyte:∀j x,s[j]?=some x→W.cell? ⟨(ρ 1).blk,j,none⟩=some (.int .u8 x.toNat):=λj x hx=>by
   have hr:(byV s)[j]?=some [.int .u8 (x.toNat:Int)]:=by simp[byV,hx]
   obtain⟨u,a1,a2⟩:=hcells j _ 0 _ hr rfl
   rw[hoff1,show 0+(j*1+0)=j by omega] at a1
   have:u=.int .u8 (x.toNat:Int):=by cases a2;rfl
   subst this
   simpa[World.cell?,hb1] using a1
  refine(m50 (ρ 0).blk (ρ 1).blk (ρ 1).cap cs1 p s W h0 hl hlc hb hb1 hsz1 hbyte).mono λe w' ⟨he,hw⟩=>?_
  have hfz:∀(x:World) (a:Addr) (n:Nat),(x.freeze a n).os=x.os∧(x.freeze a n).tape=x.tape∧(x.freeze a n).output=x.output∧(x.freeze a n).heap.size=x.heap.size∧∀k,k≠a.block→(x.freeze a n).heap[k]?=x.heap[k]?:=λx a n=>by
   unfold World.freeze
   split
   ·exact⟨rfl,rfl,rfl,rfl,λ_ _=>rfl⟩
   ·exact⟨rfl,rfl,rfl,by simp,λk hk=>by simp only[Array.getElem?_modify];rw[if_neg (λe=>hk e.symm)]⟩
  obtain⟨f1,f2,f3,f4,f5⟩:=hfz W.drew ⟨(ρ 1).blk,0,none⟩ s.length
  rw[←hw] at f1 f2 f3 f4 f5
  have hc:chH []=λ_=>.fresh:=by funext x;simp[chH]
  refine⟨_,_,[],λ_=>default,he,⟨rfl,rfl⟩,⟨f1,f2,f3,Nat.le_of_eq f4.symm,λb hb1' hb2=>f5 b λhx=>hb2 ⟨1,rfl,hnil1,hx.symm⟩,λc=>(by rw[hc];trivial),λc hl=>(by rw[hc] at hl;cases hl),λc c' hl=>(by rw[hc] at hl;cases hl),λi hi=>absurd hi (Nat.not_lt_zero _)⟩,Imm.str _⟩
theorem qt2 {s:B} (h:(10:UInt8)∉s):q81 s 10=(s,[],false):=by simp[q81,h]
theorem qn6 {s:B} (h:(10:UInt8)∈s):∃l r,s=l++10::r∧q81 s 10=(l,r,true)∧q0a 10 s=l::q0a 10 r:=by
 obtain⟨us,bs,hs,hna⟩:=List.eq_append_cons_of_mem h
 subst hs
 have hall:∀x∈us,decide (x≠10)=true:=λx hx=>decide_eq_true λe=>hna (e▸hx)
 refine⟨us,bs,rfl, ?_, ?_⟩
 ·unfold q81
  rw[if_pos h,List.takeWhile_append_of_pos hall,List.dropWhile_append_of_pos hall]
  simp
 ·rw[q1f,q1n hna]
  rfl
def ic19:IC:=sR [oP 6 (.mv (.c s0))] (sR [oP 15 (.build [i0,i0] [(0,(1,cI 1)),(1,(1,cI 1))]),oP 16 (.build [i0,i0] [(0,(1,cI 4)),(1,(1,cI 4))]),mV 17 0,mV 18 1,oP 19 (.build [i0,i0,i0,i0,s0,s0,i0,i0,s0,s0] [(0,(2,.t 15)),(2,(2,.t 16)),(4,(1,.t 17)),(5,(1,.t 18))]),oP 20 (.bsl 69 10 [.t 19]),oP 21 (.call 27 [.t 20]),mV 14 21,eX 22 14 0,eX 23 14 1,oP 7 (.alloc 33 [.nils,.nils,.nils,.nils]),nP (.sto 4 (.t 7) (.t 22)),mV 8 23] (.seq (.block 0 (sR [mV 25 8,oP 26 (.un .not (.t 25)),mV 24 26] (cD 24 (sR [oP 6 (.mv (.c (.str [110,111,32,119,111,114,108,100,10])))] .ret) (sR [mV 28 2,oP 29 (.lens (.t 28)),oP 30 (.bin .gtr (.t 29) (cI 600)),mV 27 30] (cD 27 (sR [oP 6 (.mv (.c (.str [116,111,111,32,108,111,110,103,10])))] .ret) .skip))))) (sR [oP 9 (.alloc 89 [.nilp,.nils])] (.seq (.block 1 (.loop (.block 2 (sR [mV 32 2,oP 33 (.call 46 [.t 32,.c (.str [10])]),mV 31 33,eX 34 31 0,eX 35 31 1,eX 36 31 2,mV 10 34,mV 11 35,mV 12 36] (.seq (sR [mV 37 12,oP 38 (.un .not (.t 37))] (cD 38 (.exit 1) .skip)) (sR [mV 39 10,oP 40 (.call 48 [.t 7,.t 39]),oP 41 (.call 47 [.t 9,.t 40])] (.reg [mV 42 11,mV 2 42]))))))) (sR [fD 43 0 7,lD 44 1 43,oP 45 (.iad 10 (.t 44) (.c i0)),lA 46 10 45,oP 13 (.alloc 69 [i0,i0,i0,i0,s0,s0,i0,i0,s0,s0]),nP (.sto 10 (.t 13) (.t 46))] (.seq (.drw [0,1,3,7,15,0,32,127,255,511] [(0,fD 47 6 13),(1,lD 48 1 47),(2,oP 49 (.call 49 [.t 48])),(3,oP 50 (.bin .add (.c (.str [117,112,32])) (.t 49))),(4,oP 51 (.bin .add (.t 50) (.c (.str [32])))),(5,fD 52 8 13),(6,lD 53 1 52),(7,bN 54 .add 51 53),(8,oP 55 (.bin .add (.t 54) (.c (.str [10])))),(9,oP 56 (.call 47 [.t 9,.t 55]))]) (.seq (.drw [0,1,3,7,15,0,32,127,255,511] [(0,fD 57 7 13),(1,lD 58 1 57),(2,oP 59 (.call 49 [.t 58])),(3,oP 60 (.bin .add (.c (.str [100,111,119,110,32])) (.t 59))),(4,oP 61 (.bin .add (.t 60) (.c (.str [32])))),(5,fD 62 9 13),(6,lD 63 1 62),(7,bN 64 .add 61 63),(8,oP 65 (.bin .add (.t 64) (.c (.str [10])))),(9,oP 66 (.call 47 [.t 9,.t 65]))]) (sR [oP 67 (.call 50 [.t 9]),mV 6 67] .ret))))))))
theorem dg19:Dg Tryz.prog 19 Tryz.f19 ic19 [(.t 6)]:=⟨Tryz.func19,by kernel_rfl,by kernel_rfl⟩
set_option maxHeartbeats 8000000 in
theorem c19 (up down text:B) (h1:up.length≤2000000) (h2:down.length≤2000000) (h3:text.length≤2000000):FnR Tryz.prog G 19 [.str up,.str down,.str text] (.str (q10 up down text)):=by
 refine mF dg19 Tryz.ntmps19 ?_
 have hone:([q1j up down]:List Conv).length=1:=rfl
 simp only[ic19,go_sem]
 with_reducible repeat' (first|refine br ?_ ?_<;>intro h e<;>(try simp only[e,go_sem])<;>clear e|rw[q01 (by omega)]|refine sd ?_<;>try simp only[go_sem]|fail)
 simp only[qcp]
 refine q0m (c27 [q1j up down] (by simp) (by simp[q1j];omega)) [] [1020] false 21 1 (by simp only[go_sem];first|done|simp) trivial (by simp) (by simp) (by simp only[List.mem_singleton];rintro c rfl;exact⟨rfl,by simp⟩) ?_ ?_ ?_
 ·rintro _ _ (⟨w,h,rfl,rfl⟩|⟨h,rfl,rfl⟩)
  ·refine⟨by simp,by simp,.inr ⟨by simp[V.plain,V.plain2,V.plain1,V.plain0], ?_⟩,λi hi=>by omega⟩
   intro s hs
   simp only[List.mem_singleton] at hs
   subst hs
   exact cvP _
  ·exact⟨by simp,by simp,.inr ⟨by simp[V.plain,V.plain2,V.plain1,V.plain0],by simp⟩,λi hi=>by omega⟩
 ·intro i hi;obtain rfl:i=0:=(by omega);simp only[go_sem]
 rintro _ _ (⟨w,hw,rfl,rfl⟩|⟨hw,rfl,rfl⟩)
 rotate_left
 ·have e:q10 up down text=[110,111,32,119,111,114,108,100,10]:=by simp only[q10,hw]
  rw[e]
  simp only[go_sem]
  with_reducible repeat' (first|refine br ?_ ?_<;>intro h e<;>(try simp only[e,go_sem])<;>clear e|rw[q01 (by omega)]|refine sd ?_<;>try simp only[go_sem]|fail)
 by_cases h6:(600:Int)<text.length
 ·have e:q10 up down text=[116,111,111,32,108,111,110,103,10]:=by simp only[q10,hw];rw[if_pos (by omega)]
  rw[e]
  simp only[go_sem,eq_true h6]
  with_reducible repeat' (first|refine br ?_ ?_<;>intro h e<;>(try simp only[e,go_sem,eq_true h6])<;>clear e|rw[q01 (by omega)]|refine sd ?_<;>try simp only[go_sem,eq_true h6]|fail)
 have e:q10 up down text=(q0l w (q0a 10 text).dropLast).2++q2g (q0l w (q0a 10 text).dropLast).1:=by simp only[q10,hw];rw[if_neg (by omega)]
 rw[e]
 clear e
 have hsi:=q7m hw []
 have hcon:=q91 hw []
 obtain⟨_,_,hz,hn0⟩:=q2w hw
 simp only[go_sem,eq_false h6]
 with_reducible repeat' (first|refine br ?_ ?_<;>intro h e<;>(try simp only[e,go_sem,eq_false h6])<;>clear e|rw[q01 (by omega)]|refine sd ?_<;>try simp only[go_sem,eq_false h6]|fail)
 refine q0v (λa:B×M.World×B×Bool=>⟨q0i [(2,.str a.1),(7,.pv 1007 0),(9,.pv 1009 0)],q0c [(1007,.var 33 [.own 102100 a.2.1.convs.length,.sl 3 (a.2.1.door.map.map Pair.row),.own 200001 a.2.1.door.flows.length,.own 200003 a.2.1.nets.length]),(200001,.arr 169 8 (a.2.1.door.flows.map Flw.row)),(102100,.arr 69 10 (a.2.1.convs.map Conv.row)),(200003,.arr 65 7 (a.2.1.nets.map Pk.row)),(1009,.var 89 [bif a.2.2.2 then .pv 1009 0 else .nilp,.own 200009 a.2.2.1.length]),(200009,.arr 5 1 (byV a.2.2.1))]⟩)
  (λa=>a.1.length) (λa=>a.1.length≤text.length∧SI CK CN a.2.1∧a.2.1.convs.length=1∧a.2.2.1.length+2100*a.1.length≤2100*text.length∧q0l w (q0a 10 text).dropLast=((q0l a.2.1 (q0a 10 a.1).dropLast).1,a.2.2.1++(q0l a.2.1 (q0a 10 a.1).dropLast).2)) (text,w,[],false)
  (St.le_trans (qfx (row:=[.own 102100 w.convs.length,.nils,.nils,.nils]) 1007 200001 169 8 33 2 (by simp only[go_sem]) (by decide) (by simp only[go_sem]) rfl) (St.le_trans (qfx (row:=[.own 102100 w.convs.length,.nils,.own 200001 0,.nils]) 1007 200003 65 7 33 3 (by simp only[go_sem]) (by decide) (by simp only[go_sem,List.set_cons_succ,List.set_cons_zero]) rfl) (St.le_trans (qfx (row:=[.nilp,.nils]) 1009 200009 5 1 89 1 (by simp only[go_sem]) (by decide) (by simp only[go_sem,List.set_cons_succ,List.set_cons_zero]) rfl) (leN [] (by simp only[go_sem]) (by simp only[go_sem,hz,hn0,Door.zero,List.set_cons_succ,List.set_cons_zero,cond_false,byV,List.map_nil]) (by simp[q0o]) (by simp only[go_sem]))))) ⟨Nat.le_refl _,hsi,hcon,by simp,by simp⟩ ?_
 intro⟨rest,v,out,u⟩ ⟨g1,g2,g3,g4,g5⟩
 simp only at g1 g2 g3 g4 g5
 have fc:=c46 rest 10 (by omega)
 by_cases h10:(10:UInt8)∈rest
 ·obtain⟨l,r,hr,hcb,hca⟩:=qn6 h10
  rw[hcb] at fc
  rw[hca] at g5
  have hrl:rest.length=l.length+(r.length+1):=by rw[hr];simp
  have hd:(l::q0a 10 r).dropLast=l::(q0a 10 r).dropLast:=by
   cases hq:q0a 10 r with
   | nil=>exact absurd hq (q36 10 r)
   | cons a b=>rfl
  rw[hd] at g5
  have hll:=qab g2.wi l
  have hsi2:=q8v q0y g2 l
  have hex:=(q7b v l).len
  have hj:q0l v (l::(q0a 10 r).dropLast)=((q0l (q23 v l).1 (q0a 10 r).dropLast).1,(q23 v l).2++(q0l (q23 v l).1 (q0a 10 r).dropLast).2):=rfl
  rw[hj] at g5
  cases u
  ·simp only[go_sem,cond_false]
   with_reducible repeat' (first|refine br ?_ ?_<;>intro h e<;>(try simp only[e,go_sem])<;>clear e|rw[q01 (by omega)]|refine sd ?_<;>try simp only[go_sem]|(first|refine cr (fc ..) ?_)<;>try simp only[go_sem]|fail)
   refine q0m (c48 v l g2.wi (by omega)) [1007,200001,102100,200003] [] true 40 4 (by simp only[go_sem];first|done|simp) (by simp only[go_sem];first|done|simp) (by simp) (by simp) (by simp) ?_ ?_ ?_
   ·rintro _ _ ⟨rfl,v',hv',rfl⟩
    exact⟨by simp,by simp,.inl rfl,λi hi=>by obtain rfl:i=0:=(by omega);simp[chH,q09]⟩
   ·intro i hi
    rcases(show i=0∨i=1∨i=2∨i=3 by omega) with rfl|rfl|rfl|rfl<;>simp only[go_sem]
   rintro _ _ ⟨rfl,v',hv',rfl⟩
   simp only[go_sem]
   rw[←hv'] at hsi2 hex g5
   generalize (q23 v l).2=s at *
   with_reducible repeat' (first|refine br ?_ ?_<;>intro h e<;>(try simp only[e,go_sem])<;>clear e|rw[q01 (by omega)]|refine sd ?_<;>try simp only[go_sem]|fail)
   refine q0m (o47 false (out) (s) (by omega)) [1009,200009] [] true 41 2 (by simp only[go_sem,q1q,adr,cond_true,cond_false];first|done|(simp;done)|(simp;omega)) (by simp only[go_sem,q1q,adr,cond_true,cond_false];first|done|(simp;done)|(simp;omega)) (by simp) (by simp) (by simp) ?_ ?_ ?_
   ·rintro _ _ ⟨rfl,rfl⟩
    exact⟨by simp[q1q],by simp[q1q],.inl rfl,λi hi=>by obtain rfl:i=0:=(by omega);simp[chH,q09,q1q]⟩
   ·intro i hi;rcases(show i=0∨i=1 by omega) with rfl|rfl<;>simp only[go_sem]
   rintro _ _ ⟨rfl,rfl⟩
   simp only[go_sem,q1q,adr,cond_true]
   with_reducible repeat' (first|refine br ?_ ?_<;>intro h e<;>(try simp only[e,go_sem])<;>clear e|rw[q01 (by omega)]|refine sd ?_<;>try simp only[go_sem]|fail)
   exact⟨(r,v',out++s,true),by simp only;omega,⟨by simp only;omega,hsi2,by simp only;omega,by simp only[zA];omega,by simp only;rw[g5,List.append_assoc]⟩,leN [(102100,104002),(200001,104001),(200003,104003),(200009,104101)] (by simp only[go_sem];first|done|omega|rfl) (by simp only[go_sem,cond_true];first|done|omega|rfl) (by simp[q0o]) (by simp only[go_sem])⟩
  ·simp only[go_sem,cond_true]
   with_reducible repeat' (first|refine br ?_ ?_<;>intro h e<;>(try simp only[e,go_sem])<;>clear e|rw[q01 (by omega)]|refine sd ?_<;>try simp only[go_sem]|(first|refine cr (fc ..) ?_)<;>try simp only[go_sem]|fail)
   refine q0m (c48 v l g2.wi (by omega)) [1007,200001,102100,200003] [] true 40 4 (by simp only[go_sem];first|done|simp) (by simp only[go_sem];first|done|simp) (by simp) (by simp) (by simp) ?_ ?_ ?_
   ·rintro _ _ ⟨rfl,v',hv',rfl⟩
    exact⟨by simp,by simp,.inl rfl,λi hi=>by obtain rfl:i=0:=(by omega);simp[chH,q09]⟩
   ·intro i hi
    rcases(show i=0∨i=1∨i=2∨i=3 by omega) with rfl|rfl|rfl|rfl<;>simp only[go_sem]
   rintro _ _ ⟨rfl,v',hv',rfl⟩
   simp only[go_sem]
   rw[←hv'] at hsi2 hex g5
   generalize (q23 v l).2=s at *
   with_reducible repeat' (first|refine br ?_ ?_<;>intro h e<;>(try simp only[e,go_sem])<;>clear e|rw[q01 (by omega)]|refine sd ?_<;>try simp only[go_sem]|fail)
   refine q0m (o47 true (out) (s) (by omega)) [1009,200009] [] true 41 2 (by simp only[go_sem,q1q,adr,cond_true,cond_false];first|done|(simp;done)|(simp;omega)) (by simp only[go_sem,q1q,adr,cond_true,cond_false];first|done|(simp;done)|(simp;omega)) (by simp) (by simp) (by simp) ?_ ?_ ?_
   ·rintro _ _ ⟨rfl,rfl⟩
    exact⟨by simp[q1q],by simp[q1q],.inl rfl,λi hi=>by obtain rfl:i=0:=(by omega);simp[chH,q09,q1q]⟩
   ·intro i hi;rcases(show i=0∨i=1 by omega) with rfl|rfl<;>simp only[go_sem]
   rintro _ _ ⟨rfl,rfl⟩
   simp only[go_sem,q1q,adr,cond_true]
   with_reducible repeat' (first|refine br ?_ ?_<;>intro h e<;>(try simp only[e,go_sem])<;>clear e|rw[q01 (by omega)]|refine sd ?_<;>try simp only[go_sem]|fail)
   exact⟨(r,v',out++s,true),by simp only;omega,⟨by simp only;omega,hsi2,by simp only;omega,by simp only[zA];omega,by simp only;rw[g5,List.append_assoc]⟩,leN [(102100,104002),(200001,104001),(200003,104003),(200009,104101)] (by simp only[go_sem];first|done|omega|rfl) (by simp only[go_sem,cond_true];first|done|omega|rfl) (by simp[q0o]) (by simp only[go_sem])⟩
 ·have hcb:=qt2 h10
  rw[hcb] at fc
  rw[q1n h10] at g5
  rw[show([rest]:List B).dropLast=[] from rfl,show q0l v []=(v,[]) from rfl,List.append_nil] at g5
  rw[g5]
  obtain⟨c,hc,hok⟩:=qcw g2 g3
  obtain⟨b1,b2,b3,b4⟩:=endB hok
  have fa:=c49 c.upAck b1
  have fb:=c49 c.downAck b2
  have l1:=q13 c.upAck
  have l2:=q13 c.downAck
  have el:q2g v=(117::112::32::(dec c.upAck++[32]++c.upGot++[10]))++(100::111::119::110::32::(dec c.downAck++[32]++c.downGot++[10])):=by
   simp only[q2g,hc]
   simp
  simp only
  rw[el]
  clear el
  generalize dec c.upAck=x at *
  generalize dec c.downAck=y at *
  have hs1:(117::112::32::(x++[32]++c.upGot++[10])).length≤1000:=by simp;omega
  have hs2:(100::111::119::110::32::(y++[32]++c.downGot++[10])).length≤1000:=by simp;omega
  have hne:out++(117::112::32::(x++[32]++c.upGot++[10]))++(100::111::119::110::32::(y++[32]++c.downGot++[10]))≠[]:=by simp
  have hlt:(out++(117::112::32::(x++[32]++c.upGot++[10]))).length≤1900000:=by rw[zA];omega
  cases u
  ·simp only[go_sem,cond_false,hc,q02,zC,zN]
   with_reducible repeat' (first|refine br ?_ ?_<;>intro h e<;>(try simp only[e,go_sem,hc,zA,zC,zN,zZ,zP,zU])<;>clear e|rw[q01 (by omega)]|refine sd ?_<;>try simp only[go_sem,hc,zA,zC,zN,zZ,zP,zU]|(first|refine cr (fc ..) ?_|refine cr (fa ..) ?_)<;>try simp only[go_sem,hc,zA,zC,zN,zZ,zP,zU]|fail)
   refine q0m (o47 false (out) (117::112::32::(x++[32]++c.upGot++[10])) (by omega)) [1009,200009] [] true 56 2 (by simp only[go_sem,q1q,adr,cond_true,cond_false];first|done|(simp;done)|(simp;omega)) (by simp only[go_sem,q1q,adr,cond_true,cond_false];first|done|(simp;done)|(simp;omega)) (by simp) (by simp) (by simp) ?_ ?_ ?_
   ·rintro _ _ ⟨rfl,rfl⟩
    exact⟨by simp[q1q],by simp[q1q],.inl rfl,λi hi=>by obtain rfl:i=0:=(by omega);simp[chH,q09,q1q]⟩
   ·intro i hi;rcases(show i=0∨i=1 by omega) with rfl|rfl<;>simp only[go_sem]
   rintro _ _ ⟨rfl,rfl⟩
   simp only[go_sem,q1q,adr,cond_true]
   with_reducible repeat' (first|refine br ?_ ?_<;>intro h e<;>(try simp only[e,go_sem,zA,zC,zN,zZ,zP,zU])<;>clear e|rw[q01 (by omega)]|refine sd ?_<;>try simp only[go_sem,zA,zC,zN,zZ,zP,zU]|(first|refine cr (fb ..) ?_)<;>try simp only[go_sem,zA,zC,zN,zZ,zP,zU]|fail)
   refine q0m (o47 true (out++(117::112::32::(x++[32]++c.upGot++[10]))) (100::111::119::110::32::(y++[32]++c.downGot++[10])) (by omega)) [1009,105601] [] true 66 2 (by simp only[go_sem,q1q,adr,cond_true,cond_false];first|done|(simp;done)|(simp;omega)) (by simp only[go_sem,q1q,adr,cond_true,cond_false];first|done|(simp;done)|(simp;omega)) (by simp) (by simp) (by simp) ?_ ?_ ?_
   ·rintro _ _ ⟨rfl,rfl⟩
    exact⟨by simp[q1q],by simp[q1q],.inl rfl,λi hi=>by obtain rfl:i=0:=(by omega);simp[chH,q09,q1q]⟩
   ·intro i hi;rcases(show i=0∨i=1 by omega) with rfl|rfl<;>simp only[go_sem]
   rintro _ _ ⟨rfl,rfl⟩
   simp only[go_sem,q1q,adr,cond_true]
   with_reducible repeat' (first|refine br ?_ ?_<;>intro h e<;>(try simp only[e,go_sem])<;>clear e|rw[q01 (by omega)]|refine sd ?_<;>try simp only[go_sem]|fail)
   refine q25 (o50 (out++(117::112::32::(x++[32]++c.upGot++[10]))++(100::111::119::110::32::(y++[32]++c.downGot++[10]))) hne (by rw[zA];omega)) [1009,106601] [] 67 0 (by simp only[go_sem,q1q,adr,cond_true,cond_false];first|done|(simp;done)|(simp;omega)) (by simp only[go_sem,q1q,adr,cond_true,cond_false];first|done|(simp;done)|(simp;omega)) (by simp) (by simp) (by rintro _ _ ⟨rfl,rfl⟩;simp) (by intro i hi;omega) ?_
   rintro _ _ ⟨rfl,rfl⟩
   simp only[go_sem]
   with_reducible repeat' (first|refine br ?_ ?_<;>intro h e<;>(try simp only[e,go_sem])<;>clear e|rw[q01 (by omega)]|refine sd ?_<;>try simp only[go_sem]|fail)
   all_goals first|done|(simp;done)|trace_state
  ·simp only[go_sem,cond_true,hc,q02,zC,zN]
   with_reducible repeat' (first|refine br ?_ ?_<;>intro h e<;>(try simp only[e,go_sem,hc,zA,zC,zN,zZ,zP,zU])<;>clear e|rw[q01 (by omega)]|refine sd ?_<;>try simp only[go_sem,hc,zA,zC,zN,zZ,zP,zU]|(first|refine cr (fc ..) ?_|refine cr (fa ..) ?_)<;>try simp only[go_sem,hc,zA,zC,zN,zZ,zP,zU]|fail)
   refine q0m (o47 true (out) (117::112::32::(x++[32]++c.upGot++[10])) (by omega)) [1009,200009] [] true 56 2 (by simp only[go_sem,q1q,adr,cond_true,cond_false];first|done|(simp;done)|(simp;omega)) (by simp only[go_sem,q1q,adr,cond_true,cond_false];first|done|(simp;done)|(simp;omega)) (by simp) (by simp) (by simp) ?_ ?_ ?_
   ·rintro _ _ ⟨rfl,rfl⟩
    exact⟨by simp[q1q],by simp[q1q],.inl rfl,λi hi=>by obtain rfl:i=0:=(by omega);simp[chH,q09,q1q]⟩
   ·intro i hi;rcases(show i=0∨i=1 by omega) with rfl|rfl<;>simp only[go_sem]
   rintro _ _ ⟨rfl,rfl⟩
   simp only[go_sem,q1q,adr,cond_true]
   with_reducible repeat' (first|refine br ?_ ?_<;>intro h e<;>(try simp only[e,go_sem,zA,zC,zN,zZ,zP,zU])<;>clear e|rw[q01 (by omega)]|refine sd ?_<;>try simp only[go_sem,zA,zC,zN,zZ,zP,zU]|(first|refine cr (fb ..) ?_)<;>try simp only[go_sem,zA,zC,zN,zZ,zP,zU]|fail)
   refine q0m (o47 true (out++(117::112::32::(x++[32]++c.upGot++[10]))) (100::111::119::110::32::(y++[32]++c.downGot++[10])) (by omega)) [1009,105601] [] true 66 2 (by simp only[go_sem,q1q,adr,cond_true,cond_false];first|done|(simp;done)|(simp;omega)) (by simp only[go_sem,q1q,adr,cond_true,cond_false];first|done|(simp;done)|(simp;omega)) (by simp) (by simp) (by simp) ?_ ?_ ?_
   ·rintro _ _ ⟨rfl,rfl⟩
    exact⟨by simp[q1q],by simp[q1q],.inl rfl,λi hi=>by obtain rfl:i=0:=(by omega);simp[chH,q09,q1q]⟩
   ·intro i hi;rcases(show i=0∨i=1 by omega) with rfl|rfl<;>simp only[go_sem]
   rintro _ _ ⟨rfl,rfl⟩
   simp only[go_sem,q1q,adr,cond_true]
   with_reducible repeat' (first|refine br ?_ ?_<;>intro h e<;>(try simp only[e,go_sem])<;>clear e|rw[q01 (by omega)]|refine sd ?_<;>try simp only[go_sem]|fail)
   refine q25 (o50 (out++(117::112::32::(x++[32]++c.upGot++[10]))++(100::111::119::110::32::(y++[32]++c.downGot++[10]))) hne (by rw[zA];omega)) [1009,106601] [] 67 0 (by simp only[go_sem,q1q,adr,cond_true,cond_false];first|done|(simp;done)|(simp;omega)) (by simp only[go_sem,q1q,adr,cond_true,cond_false];first|done|(simp;done)|(simp;omega)) (by simp) (by simp) (by rintro _ _ ⟨rfl,rfl⟩;simp) (by intro i hi;omega) ?_
   rintro _ _ ⟨rfl,rfl⟩
   simp only[go_sem]
   with_reducible repeat' (first|refine br ?_ ?_<;>intro h e<;>(try simp only[e,go_sem])<;>clear e|rw[q01 (by omega)]|refine sd ?_<;>try simp only[go_sem]|fail)
   all_goals first|done|(simp;done)|trace_state
theorem qip:∀x∈qaa,x.all okB=true:=by decide
theorem x94 (code:B) (p m:Int) (hc:code.length≤2000) (hp:0≤p∧p≤800000000) (hm:0≤m∧m≤40):FnP Tryz.prog G 94 1 [rdH code p] [.pv 0 0,.int .i64 m] (rdQ code p 31 λr=>∃s:B,(s.length:Int)≤m∧s.all okB=true∧r=.str s):=by
 refine mP dg94 Tryz.ntmps94 ⟨_,_,p,by omega,by omega,rfl,[],by simp;omega,rfl,rfl⟩ ?_
 simp only[ic94,go_sem,rdH]
 refine pkN code p 7 9 hc λk k1 k2=>?_
 simp only[go_sem,rdH]
 have k2:=k2 (by omega)
 refine q0v (λa:B×Int×Int=>⟨q0i [(0,.pv 0 0),(1,.int .i64 m),(5,.str a.1),(6,.int .i64 a.2.1)],q0c [(0,.var 133 [.sl 1 (code.map byR),.int .i64 a.2.2])]⟩) (λa=>a.2.1.toNat) (λa=>(0≤a.2.1∧a.2.1≤6)∧(p≤a.2.2∧a.2.2≤p+1+5*(6 - a.2.1))∧(a.1.length:Int)≤m∧a.1.all okB=true) ([],k,p+1) (leQ []) (by simp;omega) ?_
 intro⟨s,n,q⟩ ⟨h1,h2,h3,h4⟩
 simp only at h1 h2 h3 h4
 simp only[go_sem]
 with_reducible repeat' (first|rw[q01 (by omega)];try simp only[go_sem]|refine br ?_ ?_<;>intro h e<;>(try simp only[e,go_sem])<;>clear e|refine sd ?_<;>try simp only[go_sem]|fail)
 ·refine q0m (c88 code q qaa hc (by omega) (by decide)) [0] [1015] true 16 1 (by simp only[go_sem,rdH,qaa,List.mem_singleton];first|done|simp) (by simp only[go_sem,rdH];first|done|simp) (by simp) (by simp) (by simp only[List.mem_singleton];rintro c rfl;exact⟨rfl,by simp⟩) ?_ ?_ ?_
  ·rintro _ _ ⟨q',_,_,rfl,_⟩
   exact⟨by simp,by simp,.inl rfl,λi hi=>by obtain rfl:i=0:=(by omega);simp[chH,q09,rdH]⟩
  ·intro i hi;obtain rfl:i=0:=(by omega);simp only[go_sem]
  rintro _ _ ⟨q',q1,q2,rfl,x,hx,rfl⟩
  have hxl:=qcr x hx
  have hxo:=qip x hx
  simp only[go_sem,rdH]
  refine pkN code q' 5 18 hc λj j1 j2=>?_
  simp only[go_sem,rdH]
  with_reducible repeat' (first|rw[q01 (by omega)];try simp only[go_sem]|refine br ?_ ?_<;>intro h e<;>(try simp only[e,go_sem])<;>clear e|refine sd ?_<;>try simp only[go_sem]|fail)
  ·refine q0m (c141 code (q'+1) hc (by omega)) [0] [] true 21 1 (by simp only[go_sem,rdH];first|done|simp) (by simp only[go_sem,rdH];first|done|simp) (by simp) (by simp) (by simp) ?_ ?_ ?_
   ·rintro _ _ ⟨q',_,_,rfl,_⟩
    exact⟨by simp,by simp,.inl rfl,λi hi=>by obtain rfl:i=0:=(by omega);simp[chH,q09,rdH]⟩
   ·intro i hi;obtain rfl:i=0:=(by omega);simp only[go_sem]
   rintro _ _ ⟨q3,q4,q5,rfl,e,he1,he2,rfl⟩
   have hte:=q2t (e:=e)
   simp only[go_sem,rdH]
   refine q0r (c92 e.a e.p) rfl rfl ?_
   simp only[go_sem]
   clear hx hxl hxo
   have hto:=qil (e:=e)
   generalize e.text=w at *
   refine pureG (by omega) ?_
   simp only[go_sem]
   have hwl:(w++[59]).length=w.length+1:=by simp
   with_reducible repeat' (first|rw[q01 (by omega)];try simp only[go_sem,hwl]|refine br ?_ ?_<;>intro h e<;>(try simp only[e,go_sem,hwl])<;>clear e|refine sd ?_<;>try simp only[go_sem,hwl]|fail)
   ·exact⟨(s++64::(w++[59]),n - 1,q3),by simp only;omega,⟨by simp only;omega,by simp only;omega,by simp only[zA,zC,zN];omega,by simp only[List.all_append,List.all_cons,h4,hto,List.all_nil];decide⟩,(leQ [])⟩
   ·exact⟨(s,n - 1,q3),by simp only;omega,⟨by simp only;omega,by simp only;omega,h3,h4⟩,(leQ [])⟩
  ·exact⟨(s++x,n - 1,q'+1),by simp only;omega,⟨by simp only;omega,by simp only;omega,by simp;omega,by simp only[List.all_append,h4,hxo,Bool.and_self]⟩,(leQ [])⟩
  ·exact⟨(s,n - 1,q'+1),by simp only;omega,⟨by simp only;omega,by simp only;omega,h3,h4⟩,(leQ [])⟩
 ·exact q1m (.str s) [rdH code q] [] (by simp only[go_sem]) ⟨q,by omega,by omega,rfl,s,h3,h4,rfl⟩ (by simp only[go_sem,rdH]) (by simp[q1c,q0o,rdH]) (by simp only[go_sem,rdH])
end Go.Proofs.YtpnekhiejecipaaGreatDoor.W
