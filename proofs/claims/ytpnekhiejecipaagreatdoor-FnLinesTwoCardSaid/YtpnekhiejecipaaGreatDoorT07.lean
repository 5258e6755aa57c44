/- Part 7 of the proof: the walk over values, the plain model, contracts of the functions of the program. -/
import Derived.Test.YtpnekhiejecipaaGreatDoorT06
import Derived.Test.YtpnekhiejecipaaGreatDoorT04
import Derived.Test.YtpnekhiejecipaaGreatDoorT05
import Derived.Test.YtpnekhiejecipaaGreatDoorT03
set_option linter.all false
namespace Go.Proofs.YtpnekhiejecipaaGreatDoor.W
open Go Go.RowKit Go.Proofs Go.Proofs.YtpnekhiejecipaaGreatDoor.VL Go.Proofs.YtpnekhiejecipaaGreatDoor.M
def pkQ (r:V):Prop:=∃k:Pk,k.text.length≤50∧r=.agg (Pk.row k)
def qco:List B:=[[],[97,32,98],[120]]
theorem qdk:∀x∈qco,x.length≤3:=by decide
def ic91:IC:=sR [oP 2 (.alloc 65 [i0,i0,i0,i0,i0,i0,s0])] (sR [mV 4 0,oP 5 (.call 41 [.t 4,cI 2]),oP 6 (.bin .add (cI 1) (.t 5)),mV 7 0,oP 8 (.call 141 [.t 7]),mV 9 0,oP 10 (.call 141 [.t 9]),mV 11 0,oP 12 (.call 41 [.t 11,cI 20]),oP 13 (.build [i0,i0,i0,i0,i0,i0,s0] [(0,(1,.t 6)),(1,(2,.t 8)),(3,(2,.t 10)),(5,(1,.t 12))]),oP 3 (.alloc 65 [i0,i0,i0,i0,i0,i0,s0]),nP (.sto 7 (.t 3) (.t 13))] (.seq (sR [fD 14 0 3,lD 15 1 14,oP 16 (.bin .eql (.t 15) (cI 1))] (cD 16 (.reg [mV 17 0,oP 18 (.call 94 [.t 17,cI 16]),oP 19 (.bin .add (.t 18) (.c (.str [97]))),fD 20 6 3,nP (.sto 1 (.t 20) (.t 19))]) .skip)) (.seq (sR [mV 21 0,oP 22 (.call 41 [.t 21,cI 20])] (.block 0 (sR [oP 24 (.bin .eql (.t 22) (.c i0)),mV 23 24] (cD 23 (.reg [mV 25 0,oP 26 (.call 41 [.t 25,cI 4]),fD 27 0 3,nP (.sto 1 (.t 27) (.t 26))]) (sR [oP 29 (.bin .eql (.t 22) (cI 1)),mV 28 29] (cD 28 (.reg [oP 30 (.bsl 3 1 [.c (.int .i64 (-1)),cI 99,cI 100]),mV 31 0,oP 32 (.call 41 [.t 31,cI 3]),oP 33 (.iad 1 (.t 30) (.t 32)),lD 34 1 33,fD 35 5 3,nP (.sto 1 (.t 35) (.t 34))]) (sR [oP 37 (.bin .eql (.t 22) (cI 2)),mV 36 37] (cD 36 (.reg [mV 38 0,oP 39 (.bsl 9 1 [.c s0,.c (.str [97,32,98]),.c (.str [120])]),oP 40 (.call 88 [.t 38,.t 39]),fD 41 6 3,nP (.sto 1 (.t 41) (.t 40))]) .skip)))))))) (sR [lA 42 7 3,nP (.sto 7 (.t 2) (.t 42))] .ret))))
theorem dg91:Dg Tryz.prog 91 Tryz.f91 ic91 [(.cell 2 7 true)]:=⟨Tryz.func91,by kernel_rfl,by kernel_rfl⟩
theorem c91 (code:B) (p:Int) (hc:code.length≤2000) (hp:0≤p∧p≤600000000):FnP Tryz.prog G 91 1 [rdH code p] [.pv 0 0] (rdQ code p 60 pkQ):=by
 refine mP dg91 Tryz.ntmps91 ⟨_,_,p,by omega,by omega,rfl,.zero,by simp[Pk.zero],rfl⟩ ?_
 have fin:∀l mm (p':Int) (k:Pk),(p≤p'∧p'≤p+60)→k.text.length≤50→q0i l 2=.pv 1002 0→q0c mm 1002=.var 65 (Pk.row k)→q0c mm 0=.var 133 [.sl 1 (code.map byR),.int .i64 p']→q59 [.cell 2 7 true] 1 (rdQ code p 60 pkQ) .ret ⟨q0i l,q0c mm⟩:=λl mm p' k h1 h2 h3 h4 h5=>by
  refine q1m (.agg (Pk.row k)) [rdH code p'] [] ?_ ⟨p',h1.1,h1.2,rfl,k,h2,rfl⟩ ?_ (by simp[q1c,q0o,rdH]) (by simp only[go_sem,rdH])
  ·simp only[go_sem,h3,h4]
  ·simp only[go_sem,rdH,h5]
 simp only[ic91,go_sem,rdH]
 with_reducible repeat' (first|rw[q01 (by omega)];try simp only[go_sem]|refine br ?_ ?_<;>intro h e<;>(try simp only[e,go_sem])<;>clear e|refine sd ?_<;>try simp only[go_sem]|fail)
 refine pkN code p 2 5 hc λa a1 a2=>?_
 simp only[go_sem,rdH]
 with_reducible repeat' (first|rw[q01 (by omega)];try simp only[go_sem]|refine br ?_ ?_<;>intro h e<;>(try simp only[e,go_sem])<;>clear e|refine sd ?_<;>try simp only[go_sem]|fail)
 refine q0m (c141 code (p+1) hc (by omega)) [0] [] true 8 1 (by simp only[go_sem,rdH];first|done|simp) (by simp only[go_sem,rdH];first|done|simp) (by simp) (by simp) (by simp) ?_ ?_ ?_
 ·rintro _ _ ⟨q',_,_,rfl,_⟩
  exact⟨by simp,by simp,.inl rfl,λi hi=>by obtain rfl:i=0:=(by omega);simp[chH,q09,rdH]⟩
 ·intro i hi;obtain rfl:i=0:=(by omega);simp only[go_sem]
 rintro _ _ ⟨q1,q11,q12,rfl,e,_,_,rfl⟩
 simp only[go_sem,rdH]
 with_reducible repeat' (first|rw[q01 (by omega)];try simp only[go_sem]|refine br ?_ ?_<;>intro h e<;>(try simp only[e,go_sem])<;>clear e|refine sd ?_<;>try simp only[go_sem]|fail)
 refine q0m (c141 code q1 hc (by omega)) [0] [] true 10 1 (by simp only[go_sem,rdH];first|done|simp) (by simp only[go_sem,rdH];first|done|simp) (by simp) (by simp) (by simp) ?_ ?_ ?_
 ·rintro _ _ ⟨q',_,_,rfl,_⟩
  exact⟨by simp,by simp,.inl rfl,λi hi=>by obtain rfl:i=0:=(by omega);simp[chH,q09,rdH]⟩
 ·intro i hi;obtain rfl:i=0:=(by omega);simp only[go_sem]
 rintro _ _ ⟨q2,q21,q22,rfl,f,_,_,rfl⟩
 simp only[go_sem,rdH]
 with_reducible repeat' (first|rw[q01 (by omega)];try simp only[go_sem]|refine br ?_ ?_<;>intro h e<;>(try simp only[e,go_sem])<;>clear e|refine sd ?_<;>try simp only[go_sem]|fail)
 refine pkN code q2 20 12 hc λb b1 b2=>?_
 simp only[go_sem,rdH]
 with_reducible repeat' (first|rw[q01 (by omega)];try simp only[go_sem]|refine br ?_ ?_<;>intro h e<;>(try simp only[e,go_sem])<;>clear e|refine sd ?_<;>try simp only[go_sem]|fail)
 ·have:=0
  refine q0m (x94 code (q2+1) 16 hc (by omega) (by omega)) [0] [] true 18 1 (by simp only[go_sem,rdH];first|done|simp) (by simp only[go_sem,rdH];first|done|simp) (by simp) (by simp) (by simp) ?_ ?_ ?_
  ·rintro _ _ ⟨q',_,_,rfl,_⟩
   exact⟨by simp,by simp,.inl rfl,λi hi=>by obtain rfl:i=0:=(by omega);simp[chH,q09,rdH]⟩
  ·intro i hi;obtain rfl:i=0:=(by omega);simp only[go_sem]
  rintro _ _ ⟨q3,q31,q32,rfl,t,ht1,_,rfl⟩
  simp only[go_sem,rdH]
  with_reducible repeat' (first|rw[q01 (by omega)];try simp only[go_sem]|refine br ?_ ?_<;>intro h e<;>(try simp only[e,go_sem])<;>clear e|refine sd ?_<;>try simp only[go_sem]|fail)
  refine pkN code q3 20 22 hc λc c1 c2=>?_
  simp only[go_sem,rdH]
  have c2:=c2 (by omega)
  with_reducible repeat' (first|rw[q01 (by omega)];try simp only[go_sem]|refine br ?_ ?_<;>intro h e<;>(try simp only[e,go_sem])<;>clear e|refine sd ?_<;>try simp only[go_sem]|fail)
  ·have:=0
   refine pkN code (q3+1) 4 26 hc λd d1 d2=>?_
   simp only[go_sem,rdH]
   with_reducible repeat' (first|rw[q01 (by omega)];try simp only[go_sem]|refine br ?_ ?_<;>intro h e<;>(try simp only[e,go_sem])<;>clear e|refine sd ?_<;>try simp only[go_sem]|fail)
   exact fin _ _ (q3+1+1) ⟨d,e,f,b,t++[97]⟩ (by omega) (by simp only[zA,zC,zN];omega) (by simp only[go_sem]) (by simp only[go_sem]) (by simp only[go_sem])
  ·have:=0
   refine pkN code (q3+1) 3 32 hc λd d1 d2=>?_
   simp only[go_sem,rdH]
   have d2:=d2 (by omega)
   rcases(show d=0∨d=1∨d=2 by omega) with rfl|rfl|rfl
   ·have:=0
    with_reducible repeat' (first|rw[q01 (by omega)];try simp only[go_sem]|refine br ?_ ?_<;>intro h e<;>(try simp only[e,go_sem])<;>clear e|refine sd ?_<;>try simp only[go_sem]|fail)
    exact fin _ _ (q3+1+1) ⟨1+a,e,f,-1,t++[97]⟩ (by omega) (by simp only[zA,zC,zN];omega) (by simp only[go_sem]) (by simp only[go_sem]) (by simp only[go_sem])
   ·have:=0
    with_reducible repeat' (first|rw[q01 (by omega)];try simp only[go_sem]|refine br ?_ ?_<;>intro h e<;>(try simp only[e,go_sem])<;>clear e|refine sd ?_<;>try simp only[go_sem]|fail)
    exact fin _ _ (q3+1+1) ⟨1+a,e,f,99,t++[97]⟩ (by omega) (by simp only[zA,zC,zN];omega) (by simp only[go_sem]) (by simp only[go_sem]) (by simp only[go_sem])
   ·have:=0
    with_reducible repeat' (first|rw[q01 (by omega)];try simp only[go_sem]|refine br ?_ ?_<;>intro h e<;>(try simp only[e,go_sem])<;>clear e|refine sd ?_<;>try simp only[go_sem]|fail)
    exact fin _ _ (q3+1+1) ⟨1+a,e,f,100,t++[97]⟩ (by omega) (by simp only[zA,zC,zN];omega) (by simp only[go_sem]) (by simp only[go_sem]) (by simp only[go_sem])
  ·have:=0
   refine q0m (c88 code (q3+1) qco hc (by omega) (by decide)) [0] [1039] true 40 1 (by simp only[go_sem,rdH,qco,List.mem_singleton];first|done|simp) (by simp only[go_sem,rdH];first|done|simp) (by simp) (by simp) (by simp only[List.mem_singleton];rintro c rfl;exact⟨rfl,by simp⟩) ?_ ?_ ?_
   ·rintro _ _ ⟨q',_,_,rfl,_⟩
    exact⟨by simp,by simp,.inl rfl,λi hi=>by obtain rfl:i=0:=(by omega);simp[chH,q09,rdH]⟩
   ·intro i hi;obtain rfl:i=0:=(by omega);simp only[go_sem]
   rintro _ _ ⟨q5,q51,q52,rfl,x,hx,rfl⟩
   simp only[go_sem,rdH]
   have hxl:=qdk x hx
   with_reducible repeat' (first|rw[q01 (by omega)];try simp only[go_sem]|refine br ?_ ?_<;>intro h e<;>(try simp only[e,go_sem])<;>clear e|refine sd ?_<;>try simp only[go_sem]|fail)
   exact fin _ _ q5 ⟨1+a,e,f,b,x⟩ (by omega) (by simp only;omega) (by simp only[go_sem]) (by simp only[go_sem]) (by simp only[go_sem])
  ·exact fin _ _ (q3+1) ⟨1+a,e,f,b,t++[97]⟩ (by omega) (by simp only[zA,zC,zN];omega) (by simp only[go_sem]) (by simp only[go_sem]) (by simp only[go_sem])
 ·have:=0
  with_reducible repeat' (first|rw[q01 (by omega)];try simp only[go_sem]|refine br ?_ ?_<;>intro h e<;>(try simp only[e,go_sem])<;>clear e|refine sd ?_<;>try simp only[go_sem]|fail)
  refine pkN code (q2+1) 20 22 hc λc c1 c2=>?_
  simp only[go_sem,rdH]
  have c2:=c2 (by omega)
  with_reducible repeat' (first|rw[q01 (by omega)];try simp only[go_sem]|refine br ?_ ?_<;>intro h e<;>(try simp only[e,go_sem])<;>clear e|refine sd ?_<;>try simp only[go_sem]|fail)
  ·have:=0
   refine pkN code ((q2+1)+1) 4 26 hc λd d1 d2=>?_
   simp only[go_sem,rdH]
   with_reducible repeat' (first|rw[q01 (by omega)];try simp only[go_sem]|refine br ?_ ?_<;>intro h e<;>(try simp only[e,go_sem])<;>clear e|refine sd ?_<;>try simp only[go_sem]|fail)
   exact fin _ _ ((q2+1)+1+1) ⟨d,e,f,b,[]⟩ (by omega) (by simp) (by simp only[go_sem]) (by simp only[go_sem]) (by simp only[go_sem])
  ·have:=0
   refine pkN code ((q2+1)+1) 3 32 hc λd d1 d2=>?_
   simp only[go_sem,rdH]
   have d2:=d2 (by omega)
   rcases(show d=0∨d=1∨d=2 by omega) with rfl|rfl|rfl
   ·have:=0
    with_reducible repeat' (first|rw[q01 (by omega)];try simp only[go_sem]|refine br ?_ ?_<;>intro h e<;>(try simp only[e,go_sem])<;>clear e|refine sd ?_<;>try simp only[go_sem]|fail)
    exact fin _ _ ((q2+1)+1+1) ⟨1+a,e,f,-1,[]⟩ (by omega) (by simp) (by simp only[go_sem]) (by simp only[go_sem]) (by simp only[go_sem])
   ·have:=0
    with_reducible repeat' (first|rw[q01 (by omega)];try simp only[go_sem]|refine br ?_ ?_<;>intro h e<;>(try simp only[e,go_sem])<;>clear e|refine sd ?_<;>try simp only[go_sem]|fail)
    exact fin _ _ ((q2+1)+1+1) ⟨1+a,e,f,99,[]⟩ (by omega) (by simp) (by simp only[go_sem]) (by simp only[go_sem]) (by simp only[go_sem])
   ·have:=0
    with_reducible repeat' (first|rw[q01 (by omega)];try simp only[go_sem]|refine br ?_ ?_<;>intro h e<;>(try simp only[e,go_sem])<;>clear e|refine sd ?_<;>try simp only[go_sem]|fail)
    exact fin _ _ ((q2+1)+1+1) ⟨1+a,e,f,100,[]⟩ (by omega) (by simp) (by simp only[go_sem]) (by simp only[go_sem]) (by simp only[go_sem])
  ·have:=0
   refine q0m (c88 code ((q2+1)+1) qco hc (by omega) (by decide)) [0] [1039] true 40 1 (by simp only[go_sem,rdH,qco,List.mem_singleton];first|done|simp) (by simp only[go_sem,rdH];first|done|simp) (by simp) (by simp) (by simp only[List.mem_singleton];rintro c rfl;exact⟨rfl,by simp⟩) ?_ ?_ ?_
   ·rintro _ _ ⟨q',_,_,rfl,_⟩
    exact⟨by simp,by simp,.inl rfl,λi hi=>by obtain rfl:i=0:=(by omega);simp[chH,q09,rdH]⟩
   ·intro i hi;obtain rfl:i=0:=(by omega);simp only[go_sem]
   rintro _ _ ⟨q5,q51,q52,rfl,x,hx,rfl⟩
   simp only[go_sem,rdH]
   have hxl:=qdk x hx
   with_reducible repeat' (first|rw[q01 (by omega)];try simp only[go_sem]|refine br ?_ ?_<;>intro h e<;>(try simp only[e,go_sem])<;>clear e|refine sd ?_<;>try simp only[go_sem]|fail)
   exact fin _ _ q5 ⟨1+a,e,f,b,x⟩ (by omega) (by simp only;omega) (by simp only[go_sem]) (by simp only[go_sem]) (by simp only[go_sem])
  ·exact fin _ _ ((q2+1)+1) ⟨1+a,e,f,b,[]⟩ (by omega) (by simp) (by simp only[go_sem]) (by simp only[go_sem]) (by simp only[go_sem])
theorem Ended.add {s t:B} (hs:Ended s) (ht:Ended t):Ended (s++t):=by
 rcases ht with rfl|⟨u,rfl⟩
 ·rw[List.append_nil];exact hs
 ·exact .inr ⟨s++u,by rw[List.append_assoc]⟩
theorem Ended.line (s t:B):Ended (s++t++[10]):=.inr ⟨s++t,rfl⟩
theorem e43 (s:B) (n:Nat) (hs:Ended s) (hn:s.length*n≤1000000) (hn2:n≤1000000):FnP Tryz.prog G 43 0 [] [.str s,.int .i64 (n:Int)] (λr o=>o=[]∧∃t:B,(t.length=s.length*n∧Ended t)∧r=.str t):=by
 refine mP dg43 Tryz.ntmps43 ⟨_,_,rfl,List.replicate (s.length*n) 10,⟨by simp, ?_⟩,rfl⟩ ?_
 ·generalize s.length*n=k
  cases k with
  | zero=>exact .inl rfl
  | succ k=>exact .inr ⟨List.replicate k 10,by rw[←List.replicate_succ']⟩
 simp only[ic43,go_sem]
 refine q0v (λa:B×Nat×B=>⟨q0i [(0,.str a.1),(1,.int .i64 (a.2.1:Int)),(5,.str a.2.2)],q0c []⟩) (λa=>a.2.1) (λa=>a.2.2.length+a.1.length*a.2.1=s.length*n∧a.2.1≤1000000∧Ended a.1∧Ended a.2.2) (s,n,[]) (leQ []) ⟨by simp,hn2,hs,.inl rfl⟩ ?_
 intro⟨t,m,u⟩ ⟨h1,h2,h3,h4⟩
 simp only at h1 h2 h3 h4
 simp only[go_sem]
 have e1:(m:Int).tmod 2=((m % 2:Nat):Int):=(Int.ofNat_tmod m 2).symm
 have e2:(m:Int).tdiv 2=((m / 2:Nat):Int):=(Int.ofNat_tdiv m 2).symm
 have hm2:=Nat.div_add_mod m 2
 have hmul:t.length*m=(t.length+t.length)*(m / 2)+t.length*(m % 2):=by
  conv=>lhs;rw[←hm2]
  rw[Nat.mul_add,Nat.add_mul,Nat.mul_left_comm,Nat.two_mul]
 have ht:0<m→t.length≤t.length*m:=λh=>Nat.le_mul_of_pos_right _ h
 have w1:IntKind.i64.wrap ((m / 2:Nat):Int)=(m / 2:Nat):=q01 (by omega)
 with_reducible repeat' (first|refine br ?_ ?_<;>intro h e<;>(try simp only[e,go_sem,e1,e2,w1])<;>clear e|rw[q01 (by omega)]|refine sd ?_<;>try simp only[go_sem,e1,e2,w1]|fail)
 ·have hb:m % 2=1:=by omega
  rw[hb,Nat.mul_one] at hmul
  exact⟨(t++t,m / 2,u++t),by simp only;omega,⟨by simp only[zA];omega,by simp only;omega,Ended.add h3 h3,Ended.add h4 h3⟩,(leQ [])⟩
 ·have hb:m % 2=0:=by omega
  rw[hb,Nat.mul_zero] at hmul
  exact⟨(t++t,m / 2,u),by simp only;omega,⟨by simp only[zA];omega,by simp only;omega,Ended.add h3 h3,h4⟩,(leQ [])⟩
 ·obtain rfl:m=0:=by omega
  exact q1m (.str u) [] [] (by simp only[go_sem]) ⟨rfl,u,⟨by simpa using h1,h4⟩,rfl⟩ (by simp only[go_sem]) (by simp[q1c]) (by simp only[go_sem])
def q8t:List B:=[[117,112,32],[100,111,119,110,32]]
theorem q8n:∀x∈q8t,x.length≤30:=by decide
def qk5:List B:=[[108,111,115,101,32],[116,119,105,99,101,32]]
theorem qik:∀x∈qk5,x.length≤30:=by decide
def qla:List B:=[[109,97,112],[110,101,116,115]]
theorem qis:∀x∈qla,x.length≤30:=by decide
def qhv:List B:=[[119,104,97,116],[],[117,112],[98,114,105,110,103,32,120],[110,101,116,115],[102,111,114,103,101,32,100,97,116,97,32,54,58,54,32,57,58,49,48,32,48,32,113]]
theorem qkw:∀x∈qhv,x.length≤30:=by decide
def ic42:IC:=sR [oP 2 (.mv (.c s0))] (.seq (sR [mV 3 0,oP 4 (.call 41 [.t 3,cI 12])] (.block 0 (.seq (sR [oP 6 (.bin .eql (.t 4) (.c i0)),mV 5 6] (cD 5 .skip (sR [oP 7 (.bin .eql (.t 4) (cI 1)),mV 5 7] (cD 5 .skip (.reg [oP 8 (.bin .eql (.t 4) (cI 2)),mV 5 8]))))) (cD 5 (sR [mV 9 0,oP 10 (.bsl 9 1 [.c (.str [117,112,32]),.c (.str [100,111,119,110,32])]),oP 11 (.call 88 [.t 9,.t 10]),mV 12 0,oP 13 (.call 41 [.t 12,cI 5]),oP 14 (.call 89 [.t 13]),bN 15 .add 11 14,oP 16 (.bin .add (.t 15) (.c (.str [32]))),mV 17 0,oP 18 (.call 41 [.t 17,cI 9]),oP 19 (.bin .add (cI 1) (.t 18)),oP 20 (.call 89 [.t 19]),bN 21 .add 16 20,mV 2 21] .ret) (.seq (sR [oP 23 (.bin .eql (.t 4) (cI 3)),mV 22 23] (cD 22 .skip (sR [oP 24 (.bin .eql (.t 4) (cI 4)),mV 22 24] (cD 22 .skip (sR [oP 25 (.bin .eql (.t 4) (cI 5)),mV 22 25] (cD 22 .skip (.reg [oP 26 (.bin .eql (.t 4) (cI 6)),mV 22 26]))))))) (cD 22 (sR [mV 27 0,oP 28 (.call 41 [.t 27,cI 3]),oP 29 (.call 89 [.t 28]),oP 30 (.bin .add (.c (.str [98,114,105,110,103,32])) (.t 29)),mV 2 30] .ret) (sR [oP 32 (.bin .eql (.t 4) (cI 7)),mV 31 32] (cD 31 (sR [mV 33 0,oP 34 (.bsl 9 1 [.c (.str [108,111,115,101,32]),.c (.str [116,119,105,99,101,32])]),oP 35 (.call 88 [.t 33,.t 34]),mV 36 0,oP 37 (.call 41 [.t 36,cI 3]),oP 38 (.call 89 [.t 37]),bN 39 .add 35 38,mV 2 39] .ret) (sR [oP 41 (.bin .eql (.t 4) (cI 8)),mV 40 41] (cD 40 (sR [oP 2 (.mv (.c (.str [99,97,108,109])))] .ret) (sR [oP 43 (.bin .eql (.t 4) (cI 9)),mV 42 43] (cD 42 (sR [mV 44 0,oP 45 (.bsl 9 1 [.c (.str [109,97,112]),.c (.str [110,101,116,115])]),oP 46 (.call 88 [.t 44,.t 45]),mV 2 46] .ret) (sR [oP 48 (.bin .eql (.t 4) (cI 10)),mV 47 48] (cD 47 (sR [mV 49 0,oP 50 (.call 91 [.t 49]),oP 51 (.call 90 [.t 50]),oP 52 (.bin .add (.c (.str [102,111,114,103,101,32])) (.t 51)),mV 2 52] .ret) .skip)))))))))))))) (sR [mV 53 0,oP 54 (.bsl 9 1 [.c (.str [119,104,97,116]),.c s0,.c (.str [117,112]),.c (.str [98,114,105,110,103,32,120]),.c (.str [110,101,116,115]),.c (.str [102,111,114,103,101,32,100,97,116,97,32,54,58,54,32,57,58,49,48,32,48,32,113])]),oP 55 (.call 88 [.t 53,.t 54]),mV 2 55] .ret))
theorem dg42:Dg Tryz.prog 42 Tryz.f42 ic42 [(.t 2)]:=⟨Tryz.func42,by kernel_rfl,by kernel_rfl⟩
set_option maxHeartbeats 4000000 in
theorem c42 (code:B) (p:Int) (hc:code.length≤2000) (hp:0≤p∧p≤500000000):FnP Tryz.prog G 42 1 [rdH code p] [.pv 0 0] (rdQ code p 70 (quh 200)):=by
 refine mP dg42 Tryz.ntmps42 ⟨_,_,p,by omega,by omega,rfl,[],by simp,rfl⟩ ?_
 have fin:∀l mm (s:B) (q:Int),(p≤q∧q≤p+70)→s.length≤200→q0i l 2=.str s→q0c mm 0=.var 133 [.sl 1 (code.map byR),.int .i64 q]→q59 [.t 2] 1 (rdQ code p 70 (quh 200)) .ret ⟨q0i l,q0c mm⟩:=λl mm s q h1 h2 h3 h4=>by
  refine q1m (.str s) [rdH code q] [] (by simp only[go_sem,h3]) ⟨q,h1.1,h1.2,rfl,s,h2,rfl⟩ ?_ (by simp[q1c,q0o,rdH]) (by simp only[go_sem,rdH])
  simp only[go_sem,rdH,h4]
 simp only[ic42,go_sem,rdH]
 refine pkN code p 12 4 hc λk k1 k2=>?_
 simp only[go_sem,rdH]
 with_reducible repeat' (first|rw[q01 (by omega)];try simp only[go_sem]|refine br ?_ ?_<;>intro h e<;>(try simp only[e,go_sem])<;>clear e|refine sd ?_<;>try simp only[go_sem]|fail)
 ·have:=0
  refine q0m (c88 code (p+1) q8t hc (by omega) (by decide)) [0] [1010] true 11 1 (by simp only[go_sem,rdH,q8t,List.mem_singleton];first|done|simp) (by simp only[go_sem,rdH];first|done|simp) (by simp) (by simp) (by simp only[List.mem_singleton];rintro c rfl;exact⟨rfl,by simp⟩) ?_ ?_ ?_
  ·rintro _ _ ⟨q',_,_,rfl,_⟩
   exact⟨by simp,by simp,.inl rfl,λi hi=>by obtain rfl:i=0:=(by omega);simp[chH,q09,rdH]⟩
  ·intro i hi;obtain rfl:i=0:=(by omega);simp only[go_sem]
  rintro _ _ ⟨q1,q11,q12,rfl,x,hx,rfl⟩
  simp only[go_sem,rdH]
  have hxl:=q8n x hx
  with_reducible repeat' (first|rw[q01 (by omega)];try simp only[go_sem]|refine br ?_ ?_<;>intro h e<;>(try simp only[e,go_sem])<;>clear e|refine sd ?_<;>try simp only[go_sem]|fail)
  refine pkN code q1 5 13 hc λa a1 a2=>?_
  simp only[go_sem,rdH]
  have a2:=a2 (by omega)
  have g1:=c89 a (by omega)
  have l1:=q13 a
  generalize dec a=y at *
  with_reducible repeat' (first|rw[q01 (by omega)];try simp only[go_sem,zA,zC,zN,zZ,zP,zU]|refine br ?_ ?_<;>intro h e<;>(try simp only[e,go_sem,zA,zC,zN,zZ,zP,zU])<;>clear e|refine sd ?_<;>try simp only[go_sem,zA,zC,zN,zZ,zP,zU]|(first|refine cr (g1 ..) ?_)<;>try simp only[go_sem,zA,zC,zN,zZ,zP,zU]|fail)
  refine pkN code (q1+1) 9 18 hc λb b1 b2=>?_
  simp only[go_sem,rdH]
  have b2:=b2 (by omega)
  have g2:=c89 (1+b) (by omega)
  have l2:=q13 (1+b)
  generalize dec (1+b)=z at *
  with_reducible repeat' (first|rw[q01 (by omega)];try simp only[go_sem,zA,zC,zN,zZ,zP,zU]|refine br ?_ ?_<;>intro h e<;>(try simp only[e,go_sem,zA,zC,zN,zZ,zP,zU])<;>clear e|refine sd ?_<;>try simp only[go_sem,zA,zC,zN,zZ,zP,zU]|(first|refine cr (g2 ..) ?_)<;>try simp only[go_sem,zA,zC,zN,zZ,zP,zU]|fail)
  refine fin _ _ (x++y++[32]++z) (q1+1+1) (by omega) ?_ ?_ ?_
  ·simp only[zA,zC,zN,zZ,zP,zU];omega
  ·simp only[go_sem]
  ·simp only[go_sem]
 ·have:=0
  refine q0m (c88 code (p+1) q8t hc (by omega) (by decide)) [0] [1010] true 11 1 (by simp only[go_sem,rdH,q8t,List.mem_singleton];first|done|simp) (by simp only[go_sem,rdH];first|done|simp) (by simp) (by simp) (by simp only[List.mem_singleton];rintro c rfl;exact⟨rfl,by simp⟩) ?_ ?_ ?_
  ·rintro _ _ ⟨q',_,_,rfl,_⟩
   exact⟨by simp,by simp,.inl rfl,λi hi=>by obtain rfl:i=0:=(by omega);simp[chH,q09,rdH]⟩
  ·intro i hi;obtain rfl:i=0:=(by omega);simp only[go_sem]
  rintro _ _ ⟨q1,q11,q12,rfl,x,hx,rfl⟩
  simp only[go_sem,rdH]
  have hxl:=q8n x hx
  with_reducible repeat' (first|rw[q01 (by omega)];try simp only[go_sem]|refine br ?_ ?_<;>intro h e<;>(try simp only[e,go_sem])<;>clear e|refine sd ?_<;>try simp only[go_sem]|fail)
  refine pkN code q1 5 13 hc λa a1 a2=>?_
  simp only[go_sem,rdH]
  have a2:=a2 (by omega)
  have g1:=c89 a (by omega)
  have l1:=q13 a
  generalize dec a=y at *
  with_reducible repeat' (first|rw[q01 (by omega)];try simp only[go_sem,zA,zC,zN,zZ,zP,zU]|refine br ?_ ?_<;>intro h e<;>(try simp only[e,go_sem,zA,zC,zN,zZ,zP,zU])<;>clear e|refine sd ?_<;>try simp only[go_sem,zA,zC,zN,zZ,zP,zU]|(first|refine cr (g1 ..) ?_)<;>try simp only[go_sem,zA,zC,zN,zZ,zP,zU]|fail)
  refine pkN code (q1+1) 9 18 hc λb b1 b2=>?_
  simp only[go_sem,rdH]
  have b2:=b2 (by omega)
  have g2:=c89 (1+b) (by omega)
  have l2:=q13 (1+b)
  generalize dec (1+b)=z at *
  with_reducible repeat' (first|rw[q01 (by omega)];try simp only[go_sem,zA,zC,zN,zZ,zP,zU]|refine br ?_ ?_<;>intro h e<;>(try simp only[e,go_sem,zA,zC,zN,zZ,zP,zU])<;>clear e|refine sd ?_<;>try simp only[go_sem,zA,zC,zN,zZ,zP,zU]|(first|refine cr (g2 ..) ?_)<;>try simp only[go_sem,zA,zC,zN,zZ,zP,zU]|fail)
  refine fin _ _ (x++y++[32]++z) (q1+1+1) (by omega) ?_ ?_ ?_
  ·simp only[zA,zC,zN,zZ,zP,zU];omega
  ·simp only[go_sem]
  ·simp only[go_sem]
 ·have:=0
  refine q0m (c88 code (p+1) q8t hc (by omega) (by decide)) [0] [1010] true 11 1 (by simp only[go_sem,rdH,q8t,List.mem_singleton];first|done|simp) (by simp only[go_sem,rdH];first|done|simp) (by simp) (by simp) (by simp only[List.mem_singleton];rintro c rfl;exact⟨rfl,by simp⟩) ?_ ?_ ?_
  ·rintro _ _ ⟨q',_,_,rfl,_⟩
   exact⟨by simp,by simp,.inl rfl,λi hi=>by obtain rfl:i=0:=(by omega);simp[chH,q09,rdH]⟩
  ·intro i hi;obtain rfl:i=0:=(by omega);simp only[go_sem]
  rintro _ _ ⟨q1,q11,q12,rfl,x,hx,rfl⟩
  simp only[go_sem,rdH]
  have hxl:=q8n x hx
  with_reducible repeat' (first|rw[q01 (by omega)];try simp only[go_sem]|refine br ?_ ?_<;>intro h e<;>(try simp only[e,go_sem])<;>clear e|refine sd ?_<;>try simp only[go_sem]|fail)
  refine pkN code q1 5 13 hc λa a1 a2=>?_
  simp only[go_sem,rdH]
  have a2:=a2 (by omega)
  have g1:=c89 a (by omega)
  have l1:=q13 a
  generalize dec a=y at *
  with_reducible repeat' (first|rw[q01 (by omega)];try simp only[go_sem,zA,zC,zN,zZ,zP,zU]|refine br ?_ ?_<;>intro h e<;>(try simp only[e,go_sem,zA,zC,zN,zZ,zP,zU])<;>clear e|refine sd ?_<;>try simp only[go_sem,zA,zC,zN,zZ,zP,zU]|(first|refine cr (g1 ..) ?_)<;>try simp only[go_sem,zA,zC,zN,zZ,zP,zU]|fail)
  refine pkN code (q1+1) 9 18 hc λb b1 b2=>?_
  simp only[go_sem,rdH]
  have b2:=b2 (by omega)
  have g2:=c89 (1+b) (by omega)
  have l2:=q13 (1+b)
  generalize dec (1+b)=z at *
  with_reducible repeat' (first|rw[q01 (by omega)];try simp only[go_sem,zA,zC,zN,zZ,zP,zU]|refine br ?_ ?_<;>intro h e<;>(try simp only[e,go_sem,zA,zC,zN,zZ,zP,zU])<;>clear e|refine sd ?_<;>try simp only[go_sem,zA,zC,zN,zZ,zP,zU]|(first|refine cr (g2 ..) ?_)<;>try simp only[go_sem,zA,zC,zN,zZ,zP,zU]|fail)
  refine fin _ _ (x++y++[32]++z) (q1+1+1) (by omega) ?_ ?_ ?_
  ·simp only[zA,zC,zN,zZ,zP,zU];omega
  ·simp only[go_sem]
  ·simp only[go_sem]
 ·have:=0
  refine pkN code (p+1) 3 28 hc λa a1 a2=>?_
  simp only[go_sem,rdH]
  have a2:=a2 (by omega)
  have g1:=c89 a (by omega)
  have l1:=q13 a
  generalize dec a=y at *
  with_reducible repeat' (first|rw[q01 (by omega)];try simp only[go_sem,zA,zC,zN,zZ,zP,zU]|refine br ?_ ?_<;>intro h e<;>(try simp only[e,go_sem,zA,zC,zN,zZ,zP,zU])<;>clear e|refine sd ?_<;>try simp only[go_sem,zA,zC,zN,zZ,zP,zU]|(first|refine cr (g1 ..) ?_)<;>try simp only[go_sem,zA,zC,zN,zZ,zP,zU]|fail)
  refine fin _ _ (98::114::105::110::103::32::y) (p+1+1) (by omega) ?_ (by simp only[go_sem]) ?_
  ·simp only[zA,zC,zN,zZ,zP,zU];omega
  ·simp only[go_sem]
 ·have:=0
  refine pkN code (p+1) 3 28 hc λa a1 a2=>?_
  simp only[go_sem,rdH]
  have a2:=a2 (by omega)
  have g1:=c89 a (by omega)
  have l1:=q13 a
  generalize dec a=y at *
  with_reducible repeat' (first|rw[q01 (by omega)];try simp only[go_sem,zA,zC,zN,zZ,zP,zU]|refine br ?_ ?_<;>intro h e<;>(try simp only[e,go_sem,zA,zC,zN,zZ,zP,zU])<;>clear e|refine sd ?_<;>try simp only[go_sem,zA,zC,zN,zZ,zP,zU]|(first|refine cr (g1 ..) ?_)<;>try simp only[go_sem,zA,zC,zN,zZ,zP,zU]|fail)
  refine fin _ _ (98::114::105::110::103::32::y) (p+1+1) (by omega) ?_ (by simp only[go_sem]) ?_
  ·simp only[zA,zC,zN,zZ,zP,zU];omega
  ·simp only[go_sem]
 ·have:=0
  refine pkN code (p+1) 3 28 hc λa a1 a2=>?_
  simp only[go_sem,rdH]
  have a2:=a2 (by omega)
  have g1:=c89 a (by omega)
  have l1:=q13 a
  generalize dec a=y at *
  with_reducible repeat' (first|rw[q01 (by omega)];try simp only[go_sem,zA,zC,zN,zZ,zP,zU]|refine br ?_ ?_<;>intro h e<;>(try simp only[e,go_sem,zA,zC,zN,zZ,zP,zU])<;>clear e|refine sd ?_<;>try simp only[go_sem,zA,zC,zN,zZ,zP,zU]|(first|refine cr (g1 ..) ?_)<;>try simp only[go_sem,zA,zC,zN,zZ,zP,zU]|fail)
  refine fin _ _ (98::114::105::110::103::32::y) (p+1+1) (by omega) ?_ (by simp only[go_sem]) ?_
  ·simp only[zA,zC,zN,zZ,zP,zU];omega
  ·simp only[go_sem]
 ·have:=0
  refine pkN code (p+1) 3 28 hc λa a1 a2=>?_
  simp only[go_sem,rdH]
  have a2:=a2 (by omega)
  have g1:=c89 a (by omega)
  have l1:=q13 a
  generalize dec a=y at *
  with_reducible repeat' (first|rw[q01 (by omega)];try simp only[go_sem,zA,zC,zN,zZ,zP,zU]|refine br ?_ ?_<;>intro h e<;>(try simp only[e,go_sem,zA,zC,zN,zZ,zP,zU])<;>clear e|refine sd ?_<;>try simp only[go_sem,zA,zC,zN,zZ,zP,zU]|(first|refine cr (g1 ..) ?_)<;>try simp only[go_sem,zA,zC,zN,zZ,zP,zU]|fail)
  refine fin _ _ (98::114::105::110::103::32::y) (p+1+1) (by omega) ?_ (by simp only[go_sem]) ?_
  ·simp only[zA,zC,zN,zZ,zP,zU];omega
  ·simp only[go_sem]
 ·have:=0
  refine q0m (c88 code (p+1) qk5 hc (by omega) (by decide)) [0] [1034] true 35 1 (by simp only[go_sem,rdH,qk5,List.mem_singleton];first|done|simp) (by simp only[go_sem,rdH];first|done|simp) (by simp) (by simp) (by simp only[List.mem_singleton];rintro c rfl;exact⟨rfl,by simp⟩) ?_ ?_ ?_
  ·rintro _ _ ⟨q',_,_,rfl,_⟩
   exact⟨by simp,by simp,.inl rfl,λi hi=>by obtain rfl:i=0:=(by omega);simp[chH,q09,rdH]⟩
  ·intro i hi;obtain rfl:i=0:=(by omega);simp only[go_sem]
  rintro _ _ ⟨q1,q11,q12,rfl,x,hx,rfl⟩
  simp only[go_sem,rdH]
  have hxl:=qik x hx
  with_reducible repeat' (first|rw[q01 (by omega)];try simp only[go_sem]|refine br ?_ ?_<;>intro h e<;>(try simp only[e,go_sem])<;>clear e|refine sd ?_<;>try simp only[go_sem]|fail)
  refine pkN code q1 3 37 hc λa a1 a2=>?_
  simp only[go_sem,rdH]
  have a2:=a2 (by omega)
  have g1:=c89 a (by omega)
  have l1:=q13 a
  generalize dec a=y at *
  with_reducible repeat' (first|rw[q01 (by omega)];try simp only[go_sem,zA,zC,zN,zZ,zP,zU]|refine br ?_ ?_<;>intro h e<;>(try simp only[e,go_sem,zA,zC,zN,zZ,zP,zU])<;>clear e|refine sd ?_<;>try simp only[go_sem,zA,zC,zN,zZ,zP,zU]|(first|refine cr (g1 ..) ?_)<;>try simp only[go_sem,zA,zC,zN,zZ,zP,zU]|fail)
  refine fin _ _ (x++y) (q1+1) (by omega) ?_ ?_ ?_
  ·simp only[zA,zC,zN,zZ,zP,zU];omega
  ·simp only[go_sem]
  ·simp only[go_sem]
 ·exact fin _ _ [99,97,108,109] (p+1) (by omega) (by simp) (by simp only[go_sem]) (by simp only[go_sem])
 ·have:=0
  refine q0m (c88 code (p+1) qla hc (by omega) (by decide)) [0] [1045] true 46 1 (by simp only[go_sem,rdH,qla,List.mem_singleton];first|done|simp) (by simp only[go_sem,rdH];first|done|simp) (by simp) (by simp) (by simp only[List.mem_singleton];rintro c rfl;exact⟨rfl,by simp⟩) ?_ ?_ ?_
  ·rintro _ _ ⟨q',_,_,rfl,_⟩
   exact⟨by simp,by simp,.inl rfl,λi hi=>by obtain rfl:i=0:=(by omega);simp[chH,q09,rdH]⟩
  ·intro i hi;obtain rfl:i=0:=(by omega);simp only[go_sem]
  rintro _ _ ⟨q1,q11,q12,rfl,x,hx,rfl⟩
  simp only[go_sem,rdH]
  have hxl:=qis x hx
  with_reducible repeat' (first|rw[q01 (by omega)];try simp only[go_sem]|refine br ?_ ?_<;>intro h e<;>(try simp only[e,go_sem])<;>clear e|refine sd ?_<;>try simp only[go_sem]|fail)
  exact fin _ _ x q1 (by omega) (by omega) (by simp only[go_sem]) (by simp only[go_sem])
 ·have:=0
  refine q0m (c91 code (p+1) hc (by omega)) [0] [] true 50 1 (by simp only[go_sem,rdH];first|done|simp) (by simp only[go_sem,rdH];first|done|simp) (by simp) (by simp) (by simp) ?_ ?_ ?_
  ·rintro _ _ ⟨q',_,_,rfl,_⟩
   exact⟨by simp,by simp,.inl rfl,λi hi=>by obtain rfl:i=0:=(by omega);simp[chH,q09,rdH]⟩
  ·intro i hi;obtain rfl:i=0:=(by omega);simp only[go_sem]
  rintro _ _ ⟨q1,q11,q12,rfl,pk,hpk,rfl⟩
  simp only[go_sem,rdH]
  have g1:=c90 pk (by omega)
  have hpl:=q2h pk
  generalize q0f pk=y at *
  with_reducible repeat' (first|rw[q01 (by omega)];try simp only[go_sem,zA,zC,zN,zZ,zP,zU]|refine br ?_ ?_<;>intro h e<;>(try simp only[e,go_sem,zA,zC,zN,zZ,zP,zU])<;>clear e|refine sd ?_<;>try simp only[go_sem,zA,zC,zN,zZ,zP,zU]|(first|refine cr (g1 ..) ?_)<;>try simp only[go_sem,zA,zC,zN,zZ,zP,zU]|fail)
  refine fin _ _ (102::111::114::103::101::32::y) q1 (by omega) ?_ (by simp only[go_sem]) ?_
  ·simp only[zA,zC,zN,zZ,zP,zU];omega
  ·simp only[go_sem]
 ·have:=0
  refine q0m (c88 code (p+1) qhv hc (by omega) (by decide)) [0] [1054] true 55 1 (by simp only[go_sem,rdH,qhv,List.mem_singleton];first|done|simp) (by simp only[go_sem,rdH];first|done|simp) (by simp) (by simp) (by simp only[List.mem_singleton];rintro c rfl;exact⟨rfl,by simp⟩) ?_ ?_ ?_
  ·rintro _ _ ⟨q',_,_,rfl,_⟩
   exact⟨by simp,by simp,.inl rfl,λi hi=>by obtain rfl:i=0:=(by omega);simp[chH,q09,rdH]⟩
  ·intro i hi;obtain rfl:i=0:=(by omega);simp only[go_sem]
  rintro _ _ ⟨q1,q11,q12,rfl,x,hx,rfl⟩
  simp only[go_sem,rdH]
  have hxl:=qkw x hx
  with_reducible repeat' (first|rw[q01 (by omega)];try simp only[go_sem]|refine br ?_ ?_<;>intro h e<;>(try simp only[e,go_sem])<;>clear e|refine sd ?_<;>try simp only[go_sem]|fail)
  exact fin _ _ x q1 (by omega) (by omega) (by simp only[go_sem]) (by simp only[go_sem])
def qpm (r:V) (o:List Hs):Prop:=∃up down text:B,((up.length≤50∧down.length≤50)∧text.length≤5000∧Ended text)∧r=.tup [.str up,.str down,.str text]∧o=[]
def ic18:IC:=sR [oP 2 (.mv (.c s0)),oP 3 (.mv (.c s0)),oP 4 (.mv (.c s0))] (sR [mV 9 0,oP 10 (.call 40 [.t 9]),mV 5 10] (sR [oP 6 (.mv (.c s0))] (.seq (sR [mV 11 5,oP 12 (.call 41 [.t 11,cI 14]),mV 7 12] (.block 0 (.loop (.seq (sR [mV 13 7,oP 14 (.bin .gtr (.t 13) (.c i0))] (cD 14 .skip (.exit 0))) (.seq (.block 1 (.reg [mV 17 6,mV 18 5,oP 19 (.call 42 [.t 18]),bN 20 .add 17 19,oP 21 (.bin .add (.t 20) (.c (.str [10]))),mV 6 21])) (.reg [mV 15 7,oP 16 (.bin .sub (.t 15) (cI 1)),mV 7 16])))))) (.seq (sR [mV 22 5,oP 23 (.call 41 [.t 22,cI 40]),oP 24 (.bin .eql (.t 23) (.c i0))] (cD 24 (.reg [mV 25 6,oP 26 (.call 43 [.c (.str [108,111,115,101,32,48,10]),cI 90]),bN 27 .add 25 26,mV 6 27]) .skip)) (sR [mV 28 5,oP 29 (.call 44 [.t 28,cF]),mV 8 29] (.seq (sR [mV 30 5,oP 31 (.call 41 [.t 30,cI 20]),oP 32 (.bin .eql (.t 31) (.c i0))] (cD 32 (.reg [mV 33 5,oP 34 (.call 45 [.t 33]),mV 8 34]) .skip)) (sR [mV 35 8,mV 36 5,oP 37 (.call 44 [.t 36,cT]),mV 38 6,mV 2 35,mV 3 37,mV 4 38] .ret)))))))
theorem dg18:Dg Tryz.prog 18 Tryz.f18 ic18 [(.t 2),(.t 3),(.t 4)]:=⟨Tryz.func18,by kernel_rfl,by kernel_rfl⟩
set_option maxHeartbeats 4000000 in
theorem c18 (code:B) (hc:code.length≤2000000):FnP Tryz.prog G 18 0 [] [.sl 1 (code.map byR)] qpm:=by
 refine mP dg18 Tryz.ntmps18 ⟨_,_,[],[],[],⟨by simp,by simp,.inl rfl⟩,rfl,rfl⟩ ?_
 have hcl:(code.take 2000).length≤2000:=by simp;omega
 have fin:∀l mm (up down text:B),((up.length≤50∧down.length≤50)∧text.length≤5000∧Ended text)→q0i l 2=.str up→q0i l 3=.str down→q0i l 4=.str text→q59 [.t 2,.t 3,.t 4] 0 qpm .ret ⟨q0i l,q0c mm⟩:=λl mm up down text h1 h2 h3 h4=>by
  refine q1m (.tup [.str up,.str down,.str text]) [] [] ?_ ⟨up,down,text,h1,rfl,rfl⟩ (by simp only[go_sem]) (by simp[q1c]) (by simp only[go_sem])
  simp only[go_sem,h2,h3,h4]
 simp only[ic18,go_sem]
 refine q5b (c40 code hc) [] 10 1 (by simp only[go_sem];first|done|simp) (by simp) (by rintro _ _ ⟨rfl,rfl⟩;simp) (by intro i hi;obtain rfl:i=0:=(by omega);simp only[go_sem]) ?_
 rintro _ _ ⟨rfl,rfl⟩
 generalize code.take 2000=cd at *
 simp only[go_sem,rdH]
 with_reducible repeat' (first|rw[q01 (by omega)];try simp only[go_sem]|refine br ?_ ?_<;>intro h e<;>(try simp only[e,go_sem])<;>clear e|refine sd ?_<;>try simp only[go_sem]|fail)
 refine q0m (c41 cd (0) 14 hcl (by omega) (by omega)) [101000] [] true 12 1 (by simp only[go_sem,rdH];first|done|simp) (by simp only[go_sem,rdH];first|done|simp) (by simp) (by simp) (by simp) ?_ ?_ ?_
 ·rintro _ _ ⟨k,_,_,rfl,rfl⟩;exact⟨by simp,by simp,.inl rfl,λi hi=>by obtain rfl:i=0:=(by omega);simp[chH,q09,rdH]⟩
 ·intro i hi;obtain rfl:i=0:=(by omega);simp only[go_sem]
 rintro _ _ ⟨k,k1,k2,rfl,rfl⟩
 have k2:=k2 (by omega)
 simp only[go_sem,rdH]
 with_reducible repeat' (first|rw[q01 (by omega)];try simp only[go_sem]|refine br ?_ ?_<;>intro h e<;>(try simp only[e,go_sem])<;>clear e|refine sd ?_<;>try simp only[go_sem]|fail)
 refine q0v (λa:B×Int×Int=>⟨q0i [(5,.pv 101000 0),(6,.str a.1),(7,.int .i64 a.2.1)],q0c [(101000,.var 133 [.sl 1 (cd.map byR),.int .i64 a.2.2])]⟩) (λa=>a.2.1.toNat) (λa=>(0≤a.2.1∧a.2.1≤14)∧(0≤a.2.2∧a.2.2+70*a.2.1≤2000)∧(a.1.length:Int)+201*a.2.1≤3000∧Ended a.1) ([],k,0+1) (leQ []) ⟨by simp only;omega,by simp only;omega,by simp only[zN];omega,.inl rfl⟩ ?_
 intro⟨s,n,q⟩ ⟨h1,h2,h3,h4⟩
 simp only at h1 h2 h3 h4
 simp only[go_sem]
 by_cases hn:0<n
 ·simp only[eq_true hn,go_sem]
  with_reducible repeat' (first|rw[q01 (by omega)];try simp only[go_sem]|refine br ?_ ?_<;>intro h e<;>(try simp only[e,go_sem])<;>clear e|refine sd ?_<;>try simp only[go_sem]|fail)
  refine q0m (c42 cd q hcl (by omega)) [101000] [] true 19 1 (by simp only[go_sem,rdH];first|done|simp) (by simp only[go_sem,rdH];first|done|simp) (by simp) (by simp) (by simp) ?_ ?_ ?_
  ·rintro _ _ ⟨q',_,_,rfl,_⟩
   exact⟨by simp,by simp,.inl rfl,λi hi=>by obtain rfl:i=0:=(by omega);simp[chH,q09,rdH]⟩
  ·intro i hi;obtain rfl:i=0:=(by omega);simp only[go_sem]
  rintro _ _ ⟨q1,q11,q12,rfl,x,hx,rfl⟩
  simp only[go_sem,rdH]
  with_reducible repeat' (first|rw[q01 (by omega)];try simp only[go_sem,zA,zC,zN,zZ,zP,zU]|refine br ?_ ?_<;>intro h e<;>(try simp only[e,go_sem,zA,zC,zN,zZ,zP,zU])<;>clear e|refine sd ?_<;>try simp only[go_sem,zA,zC,zN,zZ,zP,zU]|fail)
  exact⟨(s++x++[10],n - 1,q1),by simp only;omega,⟨by simp only;omega,by simp only;omega,by simp only[zA,zC,zN,zZ,zP,zU];omega,Ended.line s x⟩,(leQ [])⟩
 simp only[eq_false hn,go_sem]
 obtain rfl:n=0:=by omega
 clear hn h1
 with_reducible repeat' (first|rw[q01 (by omega)];try simp only[go_sem]|refine br ?_ ?_<;>intro h e<;>(try simp only[e,go_sem])<;>clear e|refine sd ?_<;>try simp only[go_sem]|fail)
 refine q0m (c41 cd (q) 40 hcl (by omega) (by omega)) [101000] [] true 23 1 (by simp only[go_sem,rdH];first|done|simp) (by simp only[go_sem,rdH];first|done|simp) (by simp) (by simp) (by simp) ?_ ?_ ?_
 ·rintro _ _ ⟨k,_,_,rfl,rfl⟩;exact⟨by simp,by simp,.inl rfl,λi hi=>by obtain rfl:i=0:=(by omega);simp[chH,q09,rdH]⟩
 ·intro i hi;obtain rfl:i=0:=(by omega);simp only[go_sem]
 rintro _ _ ⟨m,m1,m2,rfl,rfl⟩
 have m2:=m2 (by omega)
 simp only[go_sem,rdH]
 with_reducible repeat' (first|rw[q01 (by omega)];try simp only[go_sem]|refine br ?_ ?_<;>intro h e<;>(try simp only[e,go_sem])<;>clear e|refine sd ?_<;>try simp only[go_sem]|fail)
 ·have:=0
  refine q5b (e43 [108,111,115,101,32,48,10] 90 (.inr ⟨[108,111,115,101,32,48],rfl⟩) (by decide) (by decide)) [] 26 0 (by simp only[go_sem];first|done|simp) (by simp) (by rintro _ _ ⟨rfl,_⟩;simp) (by intro i hi;omega) ?_
  rintro _ _ ⟨rfl,mt,⟨hml,hme⟩,rfl⟩
  simp only[zC,zN] at hml
  simp only[go_sem]
  with_reducible repeat' (first|rw[q01 (by omega)];try simp only[go_sem]|refine br ?_ ?_<;>intro h e<;>(try simp only[e,go_sem])<;>clear e|refine sd ?_<;>try simp only[go_sem]|fail)
  refine q0m (c44 cd (q+1) false hcl (by omega)) [101000] [] true 29 1 (by simp only[go_sem,rdH];first|done|simp) (by simp only[go_sem,rdH];first|done|simp) (by simp) (by simp) (by simp) ?_ ?_ ?_
  ·rintro _ _ ⟨q',_,_,rfl,_⟩
   exact⟨by simp,by simp,.inl rfl,λi hi=>by obtain rfl:i=0:=(by omega);simp[chH,q09,rdH]⟩
  ·intro i hi;obtain rfl:i=0:=(by omega);simp only[go_sem]
  rintro _ _ ⟨q2,q21,q22,rfl,up,hup,rfl⟩
  simp only[go_sem,rdH]
  with_reducible repeat' (first|rw[q01 (by omega)];try simp only[go_sem]|refine br ?_ ?_<;>intro h e<;>(try simp only[e,go_sem])<;>clear e|refine sd ?_<;>try simp only[go_sem]|fail)
  refine q0m (c41 cd (q2) 20 hcl (by omega) (by omega)) [101000] [] true 31 1 (by simp only[go_sem,rdH];first|done|simp) (by simp only[go_sem,rdH];first|done|simp) (by simp) (by simp) (by simp) ?_ ?_ ?_
  ·rintro _ _ ⟨k,_,_,rfl,rfl⟩;exact⟨by simp,by simp,.inl rfl,λi hi=>by obtain rfl:i=0:=(by omega);simp[chH,q09,rdH]⟩
  ·intro i hi;obtain rfl:i=0:=(by omega);simp only[go_sem]
  rintro _ _ ⟨j,j1,j2,rfl,rfl⟩
  have j2:=j2 (by omega)
  simp only[go_sem,rdH]
  with_reducible repeat' (first|rw[q01 (by omega)];try simp only[go_sem]|refine br ?_ ?_<;>intro h e<;>(try simp only[e,go_sem])<;>clear e|refine sd ?_<;>try simp only[go_sem]|fail)
  ·have:=0
   refine q0m (c45 cd (q2+1) hcl (by omega)) [101000] [] true 34 1 (by simp only[go_sem,rdH];first|done|simp) (by simp only[go_sem,rdH];first|done|simp) (by simp) (by simp) (by simp) ?_ ?_ ?_
   ·rintro _ _ ⟨q',_,_,rfl,_⟩
    exact⟨by simp,by simp,.inl rfl,λi hi=>by obtain rfl:i=0:=(by omega);simp[chH,q09,rdH]⟩
   ·intro i hi;obtain rfl:i=0:=(by omega);simp only[go_sem]
   rintro _ _ ⟨q3,q31,q32,rfl,up2,hup2,rfl⟩
   simp only[go_sem,rdH]
   with_reducible repeat' (first|rw[q01 (by omega)];try simp only[go_sem]|refine br ?_ ?_<;>intro h e<;>(try simp only[e,go_sem])<;>clear e|refine sd ?_<;>try simp only[go_sem]|fail)
   refine q0m (c44 cd q3 true hcl (by omega)) [101000] [] true 37 1 (by simp only[go_sem,rdH];first|done|simp) (by simp only[go_sem,rdH];first|done|simp) (by simp) (by simp) (by simp) ?_ ?_ ?_
   ·rintro _ _ ⟨q',_,_,rfl,_⟩
    exact⟨by simp,by simp,.inl rfl,λi hi=>by obtain rfl:i=0:=(by omega);simp[chH,q09,rdH]⟩
   ·intro i hi;obtain rfl:i=0:=(by omega);simp only[go_sem]
   rintro _ _ ⟨q4,q41,q42,rfl,dn,hdn,rfl⟩
   simp only[go_sem,rdH]
   with_reducible repeat' (first|rw[q01 (by omega)];try simp only[go_sem]|refine br ?_ ?_<;>intro h e<;>(try simp only[e,go_sem])<;>clear e|refine sd ?_<;>try simp only[go_sem]|fail)
   exact fin _ _ up2 dn (s++mt) ⟨⟨by omega,by omega⟩,by rw[zA];omega,Ended.add h4 hme⟩ (by simp only[go_sem]) (by simp only[go_sem]) (by simp only[go_sem])
  ·have:=0
   refine q0m (c44 cd (q2+1) true hcl (by omega)) [101000] [] true 37 1 (by simp only[go_sem,rdH];first|done|simp) (by simp only[go_sem,rdH];first|done|simp) (by simp) (by simp) (by simp) ?_ ?_ ?_
   ·rintro _ _ ⟨q',_,_,rfl,_⟩
    exact⟨by simp,by simp,.inl rfl,λi hi=>by obtain rfl:i=0:=(by omega);simp[chH,q09,rdH]⟩
   ·intro i hi;obtain rfl:i=0:=(by omega);simp only[go_sem]
   rintro _ _ ⟨q4,q41,q42,rfl,dn,hdn,rfl⟩
   simp only[go_sem,rdH]
   with_reducible repeat' (first|rw[q01 (by omega)];try simp only[go_sem]|refine br ?_ ?_<;>intro h e<;>(try simp only[e,go_sem])<;>clear e|refine sd ?_<;>try simp only[go_sem]|fail)
   exact fin _ _ up dn (s++mt) ⟨⟨by omega,by omega⟩,by rw[zA];omega,Ended.add h4 hme⟩ (by simp only[go_sem]) (by simp only[go_sem]) (by simp only[go_sem])
 ·have:=0
  refine q0m (c44 cd (q+1) false hcl (by omega)) [101000] [] true 29 1 (by simp only[go_sem,rdH];first|done|simp) (by simp only[go_sem,rdH];first|done|simp) (by simp) (by simp) (by simp) ?_ ?_ ?_
  ·rintro _ _ ⟨q',_,_,rfl,_⟩
   exact⟨by simp,by simp,.inl rfl,λi hi=>by obtain rfl:i=0:=(by omega);simp[chH,q09,rdH]⟩
  ·intro i hi;obtain rfl:i=0:=(by omega);simp only[go_sem]
  rintro _ _ ⟨q2,q21,q22,rfl,up,hup,rfl⟩
  simp only[go_sem,rdH]
  with_reducible repeat' (first|rw[q01 (by omega)];try simp only[go_sem]|refine br ?_ ?_<;>intro h e<;>(try simp only[e,go_sem])<;>clear e|refine sd ?_<;>try simp only[go_sem]|fail)
  refine q0m (c41 cd (q2) 20 hcl (by omega) (by omega)) [101000] [] true 31 1 (by simp only[go_sem,rdH];first|done|simp) (by simp only[go_sem,rdH];first|done|simp) (by simp) (by simp) (by simp) ?_ ?_ ?_
  ·rintro _ _ ⟨k,_,_,rfl,rfl⟩;exact⟨by simp,by simp,.inl rfl,λi hi=>by obtain rfl:i=0:=(by omega);simp[chH,q09,rdH]⟩
  ·intro i hi;obtain rfl:i=0:=(by omega);simp only[go_sem]
  rintro _ _ ⟨j,j1,j2,rfl,rfl⟩
  have j2:=j2 (by omega)
  simp only[go_sem,rdH]
  with_reducible repeat' (first|rw[q01 (by omega)];try simp only[go_sem]|refine br ?_ ?_<;>intro h e<;>(try simp only[e,go_sem])<;>clear e|refine sd ?_<;>try simp only[go_sem]|fail)
  ·have:=0
   refine q0m (c45 cd (q2+1) hcl (by omega)) [101000] [] true 34 1 (by simp only[go_sem,rdH];first|done|simp) (by simp only[go_sem,rdH];first|done|simp) (by simp) (by simp) (by simp) ?_ ?_ ?_
   ·rintro _ _ ⟨q',_,_,rfl,_⟩
    exact⟨by simp,by simp,.inl rfl,λi hi=>by obtain rfl:i=0:=(by omega);simp[chH,q09,rdH]⟩
   ·intro i hi;obtain rfl:i=0:=(by omega);simp only[go_sem]
   rintro _ _ ⟨q3,q31,q32,rfl,up2,hup2,rfl⟩
   simp only[go_sem,rdH]
   with_reducible repeat' (first|rw[q01 (by omega)];try simp only[go_sem]|refine br ?_ ?_<;>intro h e<;>(try simp only[e,go_sem])<;>clear e|refine sd ?_<;>try simp only[go_sem]|fail)
   refine q0m (c44 cd q3 true hcl (by omega)) [101000] [] true 37 1 (by simp only[go_sem,rdH];first|done|simp) (by simp only[go_sem,rdH];first|done|simp) (by simp) (by simp) (by simp) ?_ ?_ ?_
   ·rintro _ _ ⟨q',_,_,rfl,_⟩
    exact⟨by simp,by simp,.inl rfl,λi hi=>by obtain rfl:i=0:=(by omega);simp[chH,q09,rdH]⟩
   ·intro i hi;obtain rfl:i=0:=(by omega);simp only[go_sem]
   rintro _ _ ⟨q4,q41,q42,rfl,dn,hdn,rfl⟩
   simp only[go_sem,rdH]
   with_reducible repeat' (first|rw[q01 (by omega)];try simp only[go_sem]|refine br ?_ ?_<;>intro h e<;>(try simp only[e,go_sem])<;>clear e|refine sd ?_<;>try simp only[go_sem]|fail)
   exact fin _ _ up2 dn (s) ⟨⟨by omega,by omega⟩,by omega,h4⟩ (by simp only[go_sem]) (by simp only[go_sem]) (by simp only[go_sem])
  ·have:=0
   refine q0m (c44 cd (q2+1) true hcl (by omega)) [101000] [] true 37 1 (by simp only[go_sem,rdH];first|done|simp) (by simp only[go_sem,rdH];first|done|simp) (by simp) (by simp) (by simp) ?_ ?_ ?_
   ·rintro _ _ ⟨q',_,_,rfl,_⟩
    exact⟨by simp,by simp,.inl rfl,λi hi=>by obtain rfl:i=0:=(by omega);simp[chH,q09,rdH]⟩
   ·intro i hi;obtain rfl:i=0:=(by omega);simp only[go_sem]
   rintro _ _ ⟨q4,q41,q42,rfl,dn,hdn,rfl⟩
   simp only[go_sem,rdH]
   with_reducible repeat' (first|rw[q01 (by omega)];try simp only[go_sem]|refine br ?_ ?_<;>intro h e<;>(try simp only[e,go_sem])<;>clear e|refine sd ?_<;>try simp only[go_sem]|fail)
   exact fin _ _ up dn (s) ⟨⟨by omega,by omega⟩,by omega,h4⟩ (by simp only[go_sem]) (by simp only[go_sem]) (by simp only[go_sem])
theorem q98 {up down:B} (h:q0z [q1j up down]=none) (t:B):q10 up down t=[110,111,32,119,111,114,108,100,10]:=by
 unfold q10
 rw[h]
end Go.Proofs.YtpnekhiejecipaaGreatDoor.W
