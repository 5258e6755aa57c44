/- Part 6 of the proof: the walk over values, the plain model, contracts of the functions of the program. -/
import Derived.Test.YtpnekhiejecipaaGreatDoorQ04
import Derived.Test.YtpnekhiejecipaaGreatDoorQ05
import Derived.Test.YtpnekhiejecipaaGreatDoorQ03
set_option linter.all false
namespace Go.Proofs.YtpnekhiejecipaaGreatDoor.W
open Go Go.RowKit Go.Proofs Go.Proofs.YtpnekhiejecipaaGreatDoor.VL Go.Proofs.YtpnekhiejecipaaGreatDoor.M
def qpn:IC:=sR [oP 3 (.box 167 (.t 0)),oP 4 (.box 167 (.t 1)),oP 5 (.box 65 (.t 2)),oP 6 (.alloc 65 [i0,i0,i0,i0,i0,i0,s0]),oP 7 (.mv cF)] (sR [lA 10 2 4,fD 11 5 5,lD 12 1 11,oP 13 (.call 261 [.t 10,.t 12]),mV 8 13] (sR [lA 14 2 4,fD 15 5 5,lD 16 1 15,fD 17 6 5,lD 18 1 17,oP 19 (.lens (.t 18)),bN 20 .add 16 19,fD 21 0 4,lD 22 1 21,oP 23 (.lens (.t 22)),oP 24 (.mn (.t 20) (.t 23)),oP 25 (.call 261 [.t 14,.t 24]),mV 9 25] (.seq (sR [fD 26 0 4,lD 27 1 26,oP 28 (.lens (.t 27)),fD 29 0 3,lD 30 1 29,oP 31 (.lens (.t 30)),bN 32 .gtr 28 31] (cD 32 (.reg [lA 33 2 4,oP 34 (.call 236 [.t 33]),oP 35 (.lens (.t 34)),mV 9 35]) .skip)) (.seq (sR [mV 36 8,mV 37 9,bN 38 .geq 36 37] (cD 38 (sR [oP 39 (.build [i0,i0,i0,i0,i0,i0,s0] []),nP (.sto 7 (.t 6) (.t 39)),oP 7 (.mv cF)] .ret) .skip)) (sR [mV 40 8,fD 41 5 5,nP (.sto 1 (.t 41) (.t 40))] (sR [lA 42 2 4,oP 43 (.call 236 [.t 42]),mV 44 8,mV 45 9,oP 46 (.sls (.t 43) (some (.t 44)) (some (.t 45))),fD 47 6 5,nP (.sto 1 (.t 47) (.t 46))] (.seq (.drw [0,0,2,6,14,1,63] [(0,lA 48 7 5),(1,fD 49 6 5),(2,lD 50 1 49),(3,oP 51 (.lens (.t 50))),(4,oP 52 (.bin .leq (.t 51) (cI 40))),(5,nP (.sto 7 (.t 6) (.t 48))),(6,mV 7 52)]) .ret)))))))
theorem dg239:Dg Tryz.prog 239 Tryz.f239 qpn [(.cell 6 7 true),(.t 7)]:=⟨Tryz.func239,by kernel_rfl,by kernel_rfl⟩
theorem c239 (was is:Strm) (p:Pk) (h:StrB is) (hw:was.inn.length≤2000000) (hp : -10000≤p.at_∧p.at_≤9000) (ht:p.text.length≤1000) :
 FnR Tryz.prog G 239 [.agg [.str was.inn,.sl 2 (was.parts.map Part.row)],.agg [.str is.inn,.sl 2 (is.parts.map Part.row)],.agg [.int .i64 p.kind,.int .i64 p.frm.a,.int .i64 p.frm.p,.int .i64 p.to.a,.int .i64 p.to.p,.int .i64 p.at_,.str p.text]]
  (.tup [.agg (Pk.row (q80 was is p).1),.bool (q80 was is p).2]):=by
 refine mF dg239 Tryz.ntmps239 ?_
 have hso:=q29 h
 have h1:=q1z (l:=is.parts) p.at_
 have h2:=qc8 was is p
 have hil:=h.1
 have f1:=c261 is p.at_ h (by omega)
 have f2:=c261 is (min (p.at_+p.text.length) is.inn.length) h (by omega)
 have f3:=c236 is h
 have e1:∀a b,q0x is.parts p.at_=a→toR was is p=b→q80 was is p=if a≥b then(.zero,false)
  else({ p with at_:=a,text:=((sOut is).take b.toNat).drop a.toNat },decide ((((sOut is).take b.toNat).drop a.toNat).length≤40)):=λa b ha hb=>by subst ha;subst hb;rfl
 simp only[qpn,go_sem]
 generalize hfr:q0x is.parts p.at_=fr at *
 by_cases hl:was.inn.length<is.inn.length
 ·have hto:toR was is p=(sOut is).length:=by simp[toR,hl]
  have e1:=e1 _ _ rfl hto
  rw[hto] at h2
  generalize hfr2:q0x is.parts (min (p.at_+p.text.length) is.inn.length)=fr2 at *
  with_reducible repeat' (first|refine br ?_ ?_<;>intro h e<;>(try simp only[e,go_sem])<;>clear e|rw[q01 (by omega)]|refine sd ?_<;>try simp only[go_sem]|(first|refine cr (f1 ..) ?_|refine cr (f2 ..) ?_|refine cr (f3 ..) ?_)<;>try simp only[go_sem]|fail)
  all_goals first
   | (exfalso;omega)
   | (rw[e1,if_pos (by omega)];simp[Pk.zero,E.zero];done)
   | (rw[e1,if_neg (by omega)];simp;done)
   | (rw[e1,if_neg (by omega)];simp;omega)
 ·have hto:toR was is p=q0x is.parts (min (p.at_+p.text.length) is.inn.length):=by simp[toR,hl]
  have e1:=e1 _ _ rfl hto
  rw[hto] at h2
  generalize hfr2:q0x is.parts (min (p.at_+p.text.length) is.inn.length)=fr2 at *
  with_reducible repeat' (first|refine br ?_ ?_<;>intro h e<;>(try simp only[e,go_sem])<;>clear e|rw[q01 (by omega)]|refine sd ?_<;>try simp only[go_sem]|(first|refine cr (f1 ..) ?_|refine cr (f2 ..) ?_|refine cr (f3 ..) ?_)<;>try simp only[go_sem]|fail)
  all_goals first
   | (exfalso;omega)
   | (rw[e1,if_pos (by omega)];simp[Pk.zero,E.zero];done)
   | (rw[e1,if_neg (by omega)];simp;done)
   | (rw[e1,if_neg (by omega)];simp;omega)
def z0A (c:Nat):Hs→V
 | .arr _ sz _=>.sl sz []
 | _=>.own c 0
theorem qed (h:Nat→Hs) (c:Nat):z0V h (.own c 0)=z0A c (h c):=by cases hh:h c<;>simp[z0V,z0A,hh]
theorem qfa (c ty sz:Nat) (rows:List (List V)):z0A c (.arr ty sz rows)=.sl sz []:=of_eq_true (eq_self _)
theorem qei (h:Nat→Hs) (k n):z0V h (.int k n)=.int k n:=of_eq_true (eq_self _)
theorem qe8 (h:Nat→Hs) (s):z0V h (.str s)=.str s:=of_eq_true (eq_self _)
theorem qg6 (c:Nat):z0N (.own c 0)=[c]:=of_eq_true (eq_self _)
theorem qe3 (k n):z0N (.int k n)=[]:=of_eq_true (eq_self _)
theorem qfv (s):z0N (.str s)=[]:=of_eq_true (eq_self _)
theorem qhq {o:Option Nat} (h:0≤ixI o):∃k,o=some k:=by
 cases o with
 | none=>simp[ixI] at h
 | some k=>exact⟨k,rfl⟩
theorem qj1 {o:Option Nat} (h:ixI o<0):o=none:=qs3.1 h
def qte (d:Door) (i o:E) (r:V) (out:List Hs):Prop :=
 r=.tup [.agg [.own 0 (q1m d i o).1.map.length,.own 1 (q1m d i o).1.flows.length],.int .i64 (q1m d i o).2.1,.bool (q1m d i o).2.2]∧out=[.arr 145 3 ((q1m d i o).1.map.map Pair.row),.arr 169 8 ((q1m d i o).1.flows.map Flw.row)]
def qtx:IC:=sR [oP 3 (.box 30 (.t 0)),oP 4 (.box 63 (.t 1)),oP 5 (.box 63 (.t 2)),oP 6 (.alloc 30 [.nils,.nils]),oP 7 (.mv (.c i0)),oP 8 (.mv cF)] (sR [fD 13 1 3,lD 14 1 13,lA 15 2 4,lA 16 2 5,oP 17 (.call 230 [.t 14,.t 15,.t 16]),mV 9 17] (.seq (sR [mV 18 9,oP 19 (.bin .geq (.t 18) (.c i0))] (cD 19 (sR [lA 20 2 3,mV 21 9,nP (.sto 2 (.t 6) (.t 20)),mV 7 21,oP 8 (.mv cT)] .ret) .skip)) (sR [fD 23 0 3,lD 24 1 23,lA 25 2 4,oP 26 (.call 235 [.t 24,.t 25]),mV 22 26,eX 27 22 0,eX 28 22 1,eX 29 22 2,mV 10 27,mV 11 28,mV 12 29] (.seq (sR [mV 30 12,oP 31 (.un .not (.t 30)),mV 32 31,gF 33 32 (.fad 1 (.t 3)),gF 34 32 (.ld 1 false (.t 33)),gF 35 32 (.len (.t 34)),gF 36 32 (.bin .geq (.t 35) (cI 4)),pT 37 32 36] (cD 37 (sR [lA 38 2 3,nP (.sto 2 (.t 6) (.t 38)),oP 7 (.mv (.c i0)),oP 8 (.mv cF)] .ret) .skip)) (sR [mV 39 10,fD 40 0 3,nP (.sto 1 (.t 40) (.t 39))] (sR [fD 41 1 3,lD 42 1 41,lA 43 2 4,lA 44 2 5,oP 45 (.bsl 204 2 []),oP 46 (.build [s0,.nils] [(1,(1,.t 45))]),oP 47 (.bsl 204 2 []),oP 48 (.build [s0,.nils] [(1,(1,.t 47))]),oP 49 (.build [i0,i0,i0,i0,s0,.nils,s0,.nils] [(0,(2,.t 43)),(2,(2,.t 44)),(4,(2,.t 46)),(6,(2,.t 48))]),oP 50 (.bsl 169 8 [.t 49]),oP 51 (.app 169 8 (.t 42) (.t 50)),fD 52 1 3,nP (.sto 1 (.t 52) (.t 51))] (.seq (.drw [0,0,2,6,14,1,63,127] [(0,lA 53 2 3),(1,fD 54 1 3),(2,lD 55 1 54),(3,oP 56 (.len (.t 55))),(4,oP 57 (.bin .sub (.t 56) (cI 1))),(5,nP (.sto 2 (.t 6) (.t 53))),(6,mV 7 57),(7,oP 8 (.mv cT))]) .ret)))))))
theorem dg234:Dg Tryz.prog 234 Tryz.f234 qtx [(.cell 6 2 true),(.t 7),(.t 8)]:=⟨Tryz.func234,by kernel_rfl,by kernel_rfl⟩
theorem c234 (d:Door) (i o:E) (hm:mapOk d.map=true) (hf:d.flows.length≤3):FnP Tryz.prog G 234 0 [.arr 145 3 (d.map.map Pair.row),.arr 169 8 (d.flows.map Flw.row)]
 [.agg [.own 0 d.map.length,.own 1 d.flows.length],.agg [.int .i64 i.a,.int .i64 i.p],.agg [.int .i64 o.a,.int .i64 o.p]] (qte d i o):=by
 refine mP dg234 Tryz.ntmps234 ⟨_,_,rfl,rfl⟩ ?_
 obtain⟨hp,hml⟩:=q0c hm
 have keep:∀l mm k ok,q1m d i o=(d,k,ok)→q0e l 6=.pv 1006 0→q0e l 7=.int .i64 (k:Nat)→q0e l 8=.bool ok→q09 mm 1006=.var 30 [.own 0 d.map.length,.own 1 d.flows.length]→q09 mm 0=.arr 145 3 (d.map.map Pair.row)→q09 mm 1=.arr 169 8 (d.flows.map Flw.row) →
  q50 [.cell 6 2 true,.t 7,.t 8] 0 (qte d i o) .ret ⟨q0e l,q09 mm⟩:=λl mm k ok h1 h2 h3 h4 h5 h6 h7=>by
  refine q0v (.tup [.agg [.own 0 d.map.length,.own 1 d.flows.length],.int .i64 (k:Nat),.bool ok]) [.arr 145 3 (d.map.map Pair.row),.arr 169 8 (d.flows.map Flw.row)] [] ?_ ⟨by rw[h1],by rw[h1]⟩ ?_ (by simp[q0r,q0b]) (by simp only[go_sem])
  ·simp only[go_sem,h2,h3,h4,h5]
  ·simp only[go_sem,h6,h7]
 simp only[qtx,go_sem]
 refine q0l (c230 d.flows i o (by omega)) [1] false (by simp only[go_sem];first|done|simp[E.row,Pc.row,Pair.row,Part.row,Flw.row,Pk.row,Conv.row]) (by simp only[List.mem_singleton];rintro c rfl;rfl) rfl (.inr rfl) ?_
 simp only[go_sem]
 with_reducible repeat' (first|refine br ?_ ?_<;>intro h e<;>(try simp only[e,go_sem])<;>clear e|rw[q01 (by omega)]|refine sd ?_<;>try simp only[go_sem]|fail)
 ·obtain⟨k,hk⟩:=qhq h
  rw[hk]
  exact keep _ _ k true (q66 hk) (by simp only[go_sem]) (by simp only[go_sem];rfl) (by simp only[go_sem]) (by simp only[go_sem]) (by simp only[go_sem]) (by simp only[go_sem])
 have hno:=qj1 (by omega:ixI (q0w d.flows i o)<0)
 refine q0f (c235 d.map i.a i.p hp (by omega)) [0] [] true 26 2 (by simp only[go_sem];first|done|simp) (by simp only[go_sem];first|done|simp) (by simp) (by simp) (by simp) ?_ ?_ ?_
 ·rintro res out (⟨_,rfl,rfl⟩|⟨rfl,rfl,_⟩)
  ·exact⟨by simp,by simp,.inl rfl,λi hi=>by obtain rfl:i=0:=(by omega);simp[chH,q07]⟩
  ·exact⟨by simp,by simp,.inl rfl,λi hi=>by obtain rfl:i=0:=(by omega);simp[chH,q07]⟩
 ·intro i hi
  have:i=0∨i=1:=by omega
  rcases this with rfl|rfl<;>simp only[go_sem]
 ·rintro res out (⟨h1,rfl,rfl⟩|⟨rfl,rfl,h3,_⟩)
  ·simp only[go_sem]
   cases hok:(mOut d.map i).2.2<;>simp only[go_sem]
   ·with_reducible repeat' (first|refine br ?_ ?_<;>intro h e<;>(try simp only[e,go_sem])<;>clear e|rw[q01 (by omega)]|refine sd ?_<;>try simp only[go_sem]|fail)
    exact keep _ _ 0 false (q8l hno hok) (by simp only[go_sem]) (by simp only[go_sem];first|done|rfl) (by simp only[go_sem]) (by simp only[go_sem]) (by simp only[go_sem]) (by simp only[go_sem])
   ·have hn:=q4v hno hok (by omega)
    with_reducible repeat' (first|refine br ?_ ?_<;>intro h e<;>(try simp only[e,go_sem])<;>clear e|rw[q01 (by omega)]|refine sd ?_<;>try simp only[go_sem]|fail)
    ·omega
    simp only[Bool.true_and,Bool.false_and,qed,qfa,qei,qe8,qg6,qe3,qfv,List.flatMap_cons,List.flatMap_nil,go_sem]
    with_reducible repeat' (first|refine br ?_ ?_<;>intro h e<;>(try simp only[e,go_sem])<;>clear e|rw[q01 (by omega)]|refine sd ?_<;>try simp only[go_sem]|fail)
    refine q0v (.tup [.agg [.own 0 d.map.length,.own 1 (d.flows.length+1)],.int .i64 (d.flows.length:Nat),.bool true]) [.arr 145 3 (d.map.map Pair.row),.arr 169 8 ((d.flows++[Flw.mk i o .zero .zero]).map Flw.row)] [(1,1051)] ?_ ⟨by rw[hn,h1];simp,by rw[hn,h1]⟩ ?_ (by simp[q0r,q0b]) (by simp only[go_sem])
    ·simp only[go_sem];first|done|omega
    ·simp only[go_sem];simp[Flw.row,Strm.zero]
  ·have hn:=q4v hno h3 (by omega)
   simp only[go_sem,h3]
   with_reducible repeat' (first|refine br ?_ ?_<;>intro h e<;>(try simp only[e,go_sem])<;>clear e|rw[q01 (by omega)]|refine sd ?_<;>try simp only[go_sem]|fail)
   ·omega
   simp only[Bool.true_and,Bool.false_and,qed,qfa,qei,qe8,qg6,qe3,qfv,List.flatMap_cons,List.flatMap_nil,go_sem]
   with_reducible repeat' (first|refine br ?_ ?_<;>intro h e<;>(try simp only[e,go_sem])<;>clear e|rw[q01 (by omega)]|refine sd ?_<;>try simp only[go_sem]|fail)
   refine q0v (.tup [.agg [.own 0 (mOut d.map i).1.length,.own 1 (d.flows.length+1)],.int .i64 (d.flows.length:Nat),.bool true]) [.arr 145 3 ((mOut d.map i).1.map Pair.row),.arr 169 8 ((d.flows++[Flw.mk i o .zero .zero]).map Flw.row)] [(0,102601),(1,1051)] ?_ ⟨by rw[hn];simp,by rw[hn]⟩ ?_ (by simp[q0r,q0b]) (by simp only[go_sem])
   ·simp only[go_sem];first|done|omega
   ·simp only[go_sem];simp[Flw.row,Strm.zero]
def qja (x:Door×Option Pk) (r:V) (out:List Hs):Prop :=
 r=.tup [.agg [.own 0 x.1.map.length,.own 1 x.1.flows.length],.agg (Pk.row (x.2.getD .zero)),.bool x.2.isSome]∧out=[.arr 145 3 (x.1.map.map Pair.row),.arr 169 8 (x.1.flows.map Flw.row)]
theorem q1i {x:Door×Option Pk} {l:List (Nat×V)} {mm:List (Nat×Hs)} {d:Door} {q:Option Pk} (n0 n1:Nat) (hx:x=(d,q)) (h4:q0e l 4=.pv 1004 0) (h5:q0e l 5=.pv 1005 0) (h6:q0e l 6=.bool q.isSome)
 (m4:q09 mm 1004=.var 30 [.own n0 d.map.length,.own n1 d.flows.length]) (m5:q09 mm 1005=.var 65 (Pk.row (q.getD .zero))) (m0:q09 mm n0=.arr 145 3 (d.map.map Pair.row)) (m1:q09 mm n1=.arr 169 8 (d.flows.map Flw.row)) (hne:n0≠n1) :
 q50 [.cell 4 2 true,.cell 5 7 true,.t 6] 0 (qja x) .ret ⟨q0e l,q09 mm⟩:=by
 subst hx
 refine q0v (.tup [.agg [.own 0 d.map.length,.own 1 d.flows.length],.agg (Pk.row (q.getD .zero)),.bool q.isSome]) [.arr 145 3 (d.map.map Pair.row),.arr 169 8 (d.flows.map Flw.row)] [(0,n0),(1,n1)] ?_ ⟨rfl,rfl⟩ ?_ (by simp[q0r,q0b,hne]) (by simp only[go_sem])
 ·simp only[go_sem,h4,h5,h6,m4,m5]
 ·simp only[go_sem,m0,m1]
def qw3:IC:=sR [oP 2 (.box 30 (.t 0)),oP 3 (.box 65 (.t 1)),oP 4 (.alloc 30 [.nils,.nils]),oP 5 (.alloc 65 [i0,i0,i0,i0,i0,i0,s0]),oP 6 (.mv cF)] (sR [lA 18 2 2,fD 19 1 3,lA 20 2 19,fD 21 3 3,lA 22 2 21,oP 23 (.call 234 [.t 18,.t 20,.t 22]),mV 17 23,eX 24 17 0,eX 25 17 1,eX 26 17 2,nP (.sto 2 (.t 2) (.t 24)),mV 7 25,mV 8 26] (.seq (sR [mV 27 8,oP 28 (.un .not (.t 27))] (cD 28 (sR [lA 29 2 2,oP 30 (.build [i0,i0,i0,i0,i0,i0,s0] []),nP (.sto 2 (.t 4) (.t 29)),nP (.sto 7 (.t 5) (.t 30)),oP 6 (.mv cF)] .ret) .skip)) (sR [fD 32 0 2,lD 33 1 32,fD 34 1 3,lA 35 2 34,oP 36 (.call 235 [.t 33,.t 35]),mV 31 36,eX 37 31 0,eX 38 31 1,eX 39 31 2,mV 9 37,mV 10 38,mV 11 39] (sR [mV 40 10,oP 41 (.build [i0,i0] [(0,(1,cI 9)),(1,(1,.t 40))]),oP 12 (.alloc 63 [i0,i0]),nP (.sto 2 (.t 12) (.t 41))] (sR [fD 42 1 2,lD 43 1 42,mV 44 7,oP 45 (.iad 8 (.t 43) (.t 44)),lA 46 8 45,oP 13 (.alloc 169 [i0,i0,i0,i0,s0,.nils,s0,.nils]),nP (.sto 8 (.t 13) (.t 46))] (.seq (sR [fD 47 0 3,lD 48 1 47,oP 49 (.bin .eql (.t 48) (cI 2))] (cD 49 (.seq (.seq (.drw [0,1,0,4,12,28,63] [(0,fD 50 5 3),(1,lD 51 1 50),(2,fD 52 6 13),(3,lA 53 2 52),(4,oP 54 (.call 236 [.t 53])),(5,oP 55 (.lens (.t 54))),(6,bN 56 .gtr 51 55)]) (cD 56 (sR [lA 57 2 2,oP 58 (.build [i0,i0,i0,i0,i0,i0,s0] []),nP (.sto 2 (.t 4) (.t 57)),nP (.sto 7 (.t 5) (.t 58)),oP 6 (.mv cF)] .ret) .skip)) (.seq (.drw [0,0,0,4,0,16,0,64,240,510,497,2047,4095] [(0,lA 59 2 2),(1,lA 60 2 12),(2,fD 61 3 3),(3,lA 62 2 61),(4,fD 63 6 13),(5,lA 64 2 63),(6,fD 65 5 3),(7,lD 66 1 65),(8,oP 67 (.call 237 [.t 64,.t 66])),(9,oP 68 (.build [i0,i0,i0,i0,i0,i0,s0] [(0,(1,cI 2)),(1,(2,.t 60)),(3,(2,.t 62)),(5,(1,.t 67))])),(10,nP (.sto 2 (.t 4) (.t 59))),(11,nP (.sto 7 (.t 5) (.t 68))),(12,oP 6 (.mv cT))]) .ret)) .skip)) (sR [fD 70 0 2,lD 71 1 70,fD 72 4 13,lA 73 2 72,fD 74 5 3,lD 75 1 74,fD 76 6 3,lD 77 1 76,oP 78 (.call 238 [.t 71,.t 73,.t 75,.t 77,cT]),mV 69 78,eX 79 69 0,eX 80 69 1,eX 81 69 2,oP 15 (.alloc 167 [s0,.nils]),mV 14 79,nP (.sto 2 (.t 15) (.t 80)),mV 8 81] (.seq (sR [mV 82 8,oP 83 (.un .not (.t 82))] (cD 83 (sR [lA 84 2 2,oP 85 (.build [i0,i0,i0,i0,i0,i0,s0] []),nP (.sto 2 (.t 4) (.t 84)),nP (.sto 7 (.t 5) (.t 85)),oP 6 (.mv cF)] .ret) .skip)) (sR [fD 87 4 13,lA 88 2 87,lA 89 2 15,lA 90 7 3,oP 91 (.call 239 [.t 88,.t 89,.t 90]),mV 86 91,eX 92 86 0,eX 93 86 1,oP 16 (.alloc 65 [i0,i0,i0,i0,i0,i0,s0]),nP (.sto 7 (.t 16) (.t 92)),mV 8 93] (sR [lA 94 2 15,fD 95 4 13,nP (.sto 2 (.t 95) (.t 94))] (sR [mV 96 14,fD 97 0 2,nP (.sto 1 (.t 97) (.t 96))] (sR [fD 98 1 2,lD 99 1 98,mV 100 7,lA 101 8 13,oP 102 (.iad 8 (.t 99) (.t 100)),nP (.sto 8 (.t 102) (.t 101))] (.seq (sR [mV 103 8,oP 104 (.un .not (.t 103))] (cD 104 (sR [lA 105 2 2,oP 106 (.build [i0,i0,i0,i0,i0,i0,s0] []),nP (.sto 2 (.t 4) (.t 105)),nP (.sto 7 (.t 5) (.t 106)),oP 6 (.mv cF)] .ret) .skip)) (sR [lA 107 2 12,fD 108 1 16,nP (.sto 2 (.t 108) (.t 107))] (.seq (.drw [0,0,1,7,15] [(0,lA 109 2 2),(1,lA 110 7 16),(2,nP (.sto 2 (.t 4) (.t 109))),(3,nP (.sto 7 (.t 5) (.t 110))),(4,oP 6 (.mv cT))]) .ret)))))))))))))))
theorem dg199:Dg Tryz.prog 199 Tryz.f199 qw3 [(.cell 4 2 true),(.cell 5 7 true),(.t 6)]:=⟨Tryz.func199,by kernel_rfl,by kernel_rfl⟩
theorem c199 (d:Door) (p:Pk) (hd:doorOk d=true) (hl:d.flows.length≤3) (hp:PkP p) (hi:p.frm.inside=true) (ho:p.to.outside=true):FnP Tryz.prog G 199 0 [.arr 145 3 (d.map.map Pair.row),.arr 169 8 (d.flows.map Flw.row)]
 [.agg [.own 0 d.map.length,.own 1 d.flows.length],.agg [.int .i64 p.kind,.int .i64 p.frm.a,.int .i64 p.frm.p,.int .i64 p.to.a,.int .i64 p.to.p,.int .i64 p.at_,.str p.text]] (qja (q8h d p)):=by
 refine mP dg199 Tryz.ntmps199 ⟨_,_,rfl,rfl⟩ ?_
 have hm:=(q0i.1 hd).1
 have hyes:=λok=>q4y hd hi ho ok
 have hout:=λok=>q4n (p:=p) ok (hyes ok).kl
 have hno:=λok=>q6k (d:=d) (p:=p) ok
 have hno':=λok=>qie (d:=d) (i:=p.frm) (o:=p.to) ok
 simp only[qw3,go_sem]
 refine q1t (c234 d p.frm p.to hm hl) [0,1] [] 23 2 (by simp only[go_sem];first|done|simp) (by simp only[go_sem];first|done|simp) (by simp) (by simp) (by rintro _ _ ⟨rfl,rfl⟩;simp) (by intro i hi;rcases(show i=0∨i=1 by omega) with rfl|rfl<;>simp only[go_sem]) ?_
 rintro _ _ ⟨rfl,rfl⟩
 simp only[go_sem]
 generalize hx:q1m d p.frm p.to=x at *
 obtain⟨x,k,ok⟩:=x
 simp only at hyes hout hno hno'
 cases ok<;>simp only[go_sem]
 ·refine q1i 102300 102301 (hno rfl) ?_ ?_ ?_ ?_ ?_ ?_ ?_ (by decide)<;>simp only[go_sem,hno' rfl,Option.isSome_none,Option.getD_none,Pk.zero,E.zero]
 obtain⟨x1,x2,x3,x4,x5,x6,x7,x8⟩:=hyes rfl
 rw[hout rfl]
 obtain⟨xp,xl⟩:=q0c x1
 have hmo:=q51 (λp h=>(xp p h).1) x2
 clear hyes hout hno hno'
 refine q0f (c235 x.map p.frm.a p.frm.p xp (by omega)) [102300] [] true 36 2 (by simp only[go_sem];first|done|simp) (by simp only[go_sem];first|done|simp) (by simp) (by simp) (by simp) ?_ ?_ ?_
 ·rintro res out (⟨_,rfl,rfl⟩|⟨rfl,rfl,_⟩)
  ·exact⟨by simp,by simp,.inl rfl,λi hi=>by obtain rfl:i=0:=(by omega);simp[chH,q07]⟩
  ·exact⟨by simp,by simp,.inl rfl,λi hi=>by obtain rfl:i=0:=(by omega);simp[chH,q07]⟩
 ·intro i hi
  have:i=0∨i=1:=by omega
  rcases this with rfl|rfl<;>simp only[go_sem]
 intro res out hoA
 obtain⟨_,rfl,rfl⟩:=hoA.resolve_right (λh3=>h3.2.2.2 (by rw[hmo]))
 simp only[go_sem,hmo]
 have hg:x.flows.getD k default=Flw.at x k:=rfl
 rw[hg] at x6 x7
 have s1:=q0k x6
 have s2:=q0k x7
 have so:=q29 s2
 have hpa:=hp.at_
 have hpl:=hp.len
 have f1:=c236 (Flw.at x k).down s2
 have f2:=c237 (Flw.at x k).down p.at_ s2 (by omega)
 generalize hpo:portOf x.map p.frm=po at *
 with_reducible repeat' (first|refine br ?_ ?_<;>intro h e<;>(try simp only[e,go_sem,q03 x4,hg])<;>clear e|rw[q01 (by omega)]|refine sd ?_<;>try simp only[go_sem,q03 x4,hg]|(first|refine cr (f1 ..) ?_|refine cr (f2 ..) ?_)<;>try simp only[go_sem,q03 x4,hg]|fail)
 ·have:q6w x k p=(x,none):=by
   simp only[q6w];rw[if_pos (by assumption),if_pos (by omega)]
  refine q1i 102300 102301 this ?_ ?_ ?_ ?_ ?_ ?_ ?_ (by decide)<;>simp only[go_sem,Option.isSome_none,Option.getD_none,Pk.zero,E.zero]
 ·have:q6w x k p=(x,some ⟨2,⟨9,po⟩,p.to,q2c (Flw.at x k).down.parts p.at_,[]⟩):=by
   simp only[q6w,hpo];rw[if_pos (by assumption),if_neg (by omega)]
  refine q1i 102300 102301 this ?_ ?_ ?_ ?_ ?_ ?_ ?_ (by decide)<;>simp only[go_sem,Option.isSome_some,Option.getD_some]
 have hpo2:PutOk x.map (Flw.at x k).up p.at_ p.text:=⟨x1,x6,hpa,hpl⟩
 refine q0f (c238T x.map (Flw.at x k).up p.at_ p.text hpo2) [102300] [] true 78 2 (by simp only[go_sem];first|done|simp) (by simp only[go_sem];first|done|simp) (by simp) (by simp) (by simp) ?_ ?_ ?_
 ·rintro res out (⟨_,rfl,rfl⟩|⟨_,rfl,rfl⟩)
  ·exact⟨by simp,by simp,.inl rfl,λi hi=>by obtain rfl:i=0:=(by omega);simp[chH,q07]⟩
  ·exact⟨by simp,by simp,.inl rfl,λi hi=>by obtain rfl:i=0:=(by omega);simp[chH,q07]⟩
 ·intro i hi
  have:i=0∨i=1:=by omega
  rcases this with rfl|rfl<;>simp only[go_sem]
 have htx:=hp.tx.resolve_left (by assumption)
 have hpk:=q45 (m:=x.map) (s:=(Flw.at x k).up) (n:=p.at_) (t:=p.text) (out:=true) x1 x6 htx hpa.1
 have hko:q6w x k p=if(put x.map (Flw.at x k).up p.at_ p.text true).2.2=false then(x,none)
  else(⟨(put x.map (Flw.at x k).up p.at_ p.text true).1,x.flows.set k { Flw.at x k with up:=(put x.map (Flw.at x k).up p.at_ p.text true).2.1 }⟩,
   (q1n (Flw.at x k).up (put x.map (Flw.at x k).up p.at_ p.text true).2.1 p).map λq=>{ q with frm:=⟨9,po⟩ }):=by
  simp only[q6w,hpo];rw[if_neg (by assumption)]
 rintro res out (⟨h,rfl,rfl⟩|⟨h,rfl,rfl⟩)
 ·generalize hP:put x.map (Flw.at x k).up p.at_ p.text true=P at *
  obtain⟨m',s',ok'⟩:=P
  simp only at h hpk hko
  subst h
  cases ok'<;>simp only[go_sem]
  ·rw[if_pos rfl] at hko
   with_reducible repeat' (first|refine br ?_ ?_<;>intro h e<;>(try simp only[e,go_sem])<;>clear e|rw[q01 (by omega)]|refine sd ?_<;>try simp only[go_sem]|fail)
   refine q1i 102300 102301 hko ?_ ?_ ?_ ?_ ?_ ?_ ?_ (by decide)<;>simp only[go_sem,Option.isSome_none,Option.getD_none,Pk.zero,E.zero]
  rw[if_neg (by simp),q8q] at hko
  have f3:=c239 (Flw.at x k).up s' p (q0k hpk.2) (by have:=s1.1;omega) (by omega) (by omega)
  generalize hS:q80 (Flw.at x k).up s' p=S at *
  obtain⟨q,okq⟩:=S
  simp only at hko
  cases okq
  all_goals
   with_reducible repeat' (first|refine br ?_ ?_<;>intro h e<;>(try simp only[e,go_sem])<;>clear e|rw[q01 (by omega)]|refine sd ?_<;>try simp only[go_sem]|(first|refine cr (f3 ..) ?_)<;>try simp only[go_sem]|fail)
  ·refine q1i (d:=⟨x.map,x.flows.set k { Flw.at x k with up:=s' }⟩) (q:=none) 102300 102301 (by rw[hko];rfl) ?_ ?_ ?_ ?_ ?_ ?_ ?_ (by decide)<;>simp only[go_sem,Option.isSome_none,Option.getD_none,Pk.zero,E.zero,List.map_set,List.length_set,q03 x4,hg]
  ·refine q1i (d:=⟨x.map,x.flows.set k { Flw.at x k with up:=s' }⟩) (q:=some { q with frm:=⟨9,po⟩ }) 102300 102301 (by rw[hko];rfl) ?_ ?_ ?_ ?_ ?_ ?_ ?_ (by decide)<;>simp only[go_sem,Option.isSome_some,Option.getD_some,List.map_set,List.length_set,q03 x4,hg]
 ·generalize hP:put x.map (Flw.at x k).up p.at_ p.text true=P at *
  obtain⟨m',s',ok'⟩:=P
  simp only at h hpk hko
  subst h
  simp only[go_sem]
  rw[if_neg (by simp),q8q] at hko
  have f3:=c239 (Flw.at x k).up s' p (q0k hpk.2) (by have:=s1.1;omega) (by omega) (by omega)
  generalize hS:q80 (Flw.at x k).up s' p=S at *
  obtain⟨q,okq⟩:=S
  simp only at hko
  cases okq
  all_goals
   with_reducible repeat' (first|refine br ?_ ?_<;>intro h e<;>(try simp only[e,go_sem])<;>clear e|rw[q01 (by omega)]|refine sd ?_<;>try simp only[go_sem]|(first|refine cr (f3 ..) ?_)<;>try simp only[go_sem]|fail)
  ·refine q1i (d:=⟨m',x.flows.set k { Flw.at x k with up:=s' }⟩) (q:=none) 107801 102301 (by rw[hko];rfl) ?_ ?_ ?_ ?_ ?_ ?_ ?_ (by decide)<;>simp only[go_sem,Option.isSome_none,Option.getD_none,Pk.zero,E.zero,List.map_set,List.length_set,q03 x4,hg]
  ·refine q1i (d:=⟨m',x.flows.set k { Flw.at x k with up:=s' }⟩) (q:=some { q with frm:=⟨9,po⟩ }) 107801 102301 (by rw[hko];rfl) ?_ ?_ ?_ ?_ ?_ ?_ ?_ (by decide)<;>simp only[go_sem,Option.isSome_some,Option.getD_some,List.map_set,List.length_set,q03 x4,hg]
def qr8:IC:=sR [oP 2 (.box 30 (.t 0)),oP 3 (.box 65 (.t 1)),oP 4 (.alloc 30 [.nils,.nils]),oP 5 (.alloc 65 [i0,i0,i0,i0,i0,i0,s0]),oP 6 (.mv cF)] (sR [fD 15 0 2,lD 16 1 15,fD 17 3 3,fD 18 1 17,lD 19 1 18,oP 20 (.call 240 [.t 16,.t 19]),mV 14 20,eX 21 14 0,eX 22 14 1,oP 7 (.alloc 63 [i0,i0]),nP (.sto 2 (.t 7) (.t 21)),mV 8 22] (sR [fD 23 1 2,lD 24 1 23,lA 25 2 7,fD 26 1 3,lA 27 2 26,oP 28 (.call 230 [.t 24,.t 25,.t 27]),mV 9 28] (.seq (sR [mV 29 8,oP 30 (.un .not (.t 29)),mV 31 30,gF 32 31 (.mv (.t 9)),gF 33 31 (.bin .lss (.t 32) (.c i0)),pT 34 31 33] (cD 34 (sR [lA 35 2 2,oP 36 (.build [i0,i0,i0,i0,i0,i0,s0] []),nP (.sto 2 (.t 4) (.t 35)),nP (.sto 7 (.t 5) (.t 36)),oP 6 (.mv cF)] .ret) .skip)) (sR [fD 37 1 2,lD 38 1 37,mV 39 9,oP 40 (.iad 8 (.t 38) (.t 39)),lA 41 8 40,oP 10 (.alloc 169 [i0,i0,i0,i0,s0,.nils,s0,.nils]),nP (.sto 8 (.t 10) (.t 41))] (.seq (sR [fD 42 0 3,lD 43 1 42,oP 44 (.bin .eql (.t 43) (cI 2))] (cD 44 (.seq (.seq (.drw [0,1,0,4,12,28,63] [(0,fD 45 5 3),(1,lD 46 1 45),(2,fD 47 4 10),(3,lA 48 2 47),(4,oP 49 (.call 236 [.t 48])),(5,oP 50 (.lens (.t 49))),(6,bN 51 .gtr 46 50)]) (cD 51 (sR [lA 52 2 2,oP 53 (.build [i0,i0,i0,i0,i0,i0,s0] []),nP (.sto 2 (.t 4) (.t 52)),nP (.sto 7 (.t 5) (.t 53)),oP 6 (.mv cF)] .ret) .skip)) (.seq (.drw [0,0,2,0,0,16,0,64,240,510,497,2047,4095] [(0,lA 54 2 2),(1,fD 55 1 3),(2,lA 56 2 55),(3,lA 57 2 7),(4,fD 58 4 10),(5,lA 59 2 58),(6,fD 60 5 3),(7,lD 61 1 60),(8,oP 62 (.call 237 [.t 59,.t 61])),(9,oP 63 (.build [i0,i0,i0,i0,i0,i0,s0] [(0,(1,cI 2)),(1,(2,.t 56)),(3,(2,.t 57)),(5,(1,.t 62))])),(10,nP (.sto 2 (.t 4) (.t 54))),(11,nP (.sto 7 (.t 5) (.t 63))),(12,oP 6 (.mv cT))]) .ret)) .skip)) (sR [fD 65 0 2,lD 66 1 65,fD 67 6 10,lA 68 2 67,fD 69 5 3,lD 70 1 69,fD 71 6 3,lD 72 1 71,oP 73 (.call 238 [.t 66,.t 68,.t 70,.t 72,cF]),mV 64 73,eX 74 64 0,eX 75 64 1,eX 76 64 2,oP 12 (.alloc 167 [s0,.nils]),mV 11 74,nP (.sto 2 (.t 12) (.t 75)),mV 8 76] (.seq (sR [mV 77 8,oP 78 (.un .not (.t 77))] (cD 78 (sR [lA 79 2 2,oP 80 (.build [i0,i0,i0,i0,i0,i0,s0] []),nP (.sto 2 (.t 4) (.t 79)),nP (.sto 7 (.t 5) (.t 80)),oP 6 (.mv cF)] .ret) .skip)) (sR [fD 82 6 10,lA 83 2 82,lA 84 2 12,lA 85 7 3,oP 86 (.call 239 [.t 83,.t 84,.t 85]),mV 81 86,eX 87 81 0,eX 88 81 1,oP 13 (.alloc 65 [i0,i0,i0,i0,i0,i0,s0]),nP (.sto 7 (.t 13) (.t 87)),mV 8 88] (sR [lA 89 2 12,fD 90 6 10,nP (.sto 2 (.t 90) (.t 89))] (sR [fD 91 1 2,lD 92 1 91,mV 93 9,lA 94 8 10,oP 95 (.iad 8 (.t 92) (.t 93)),nP (.sto 8 (.t 95) (.t 94))] (.seq (sR [mV 96 8,oP 97 (.un .not (.t 96))] (cD 97 (sR [lA 98 2 2,oP 99 (.build [i0,i0,i0,i0,i0,i0,s0] []),nP (.sto 2 (.t 4) (.t 98)),nP (.sto 7 (.t 5) (.t 99)),oP 6 (.mv cF)] .ret) .skip)) (sR [lA 100 2 7,fD 101 3 13,nP (.sto 2 (.t 101) (.t 100))] (.seq (.drw [0,0,1,7,15] [(0,lA 102 2 2),(1,lA 103 7 13),(2,nP (.sto 2 (.t 4) (.t 102))),(3,nP (.sto 7 (.t 5) (.t 103))),(4,oP 6 (.mv cT))]) .ret)))))))))))))
theorem dg200:Dg Tryz.prog 200 Tryz.f200 qr8 [(.cell 4 2 true),(.cell 5 7 true),(.t 6)]:=⟨Tryz.func200,by kernel_rfl,by kernel_rfl⟩
theorem c200 (d:Door) (p:Pk) (hd:doorOk d=true) (hp:PkP p) (hi:p.to.door=true):FnP Tryz.prog G 200 0 [.arr 145 3 (d.map.map Pair.row),.arr 169 8 (d.flows.map Flw.row)]
 [.agg [.own 0 d.map.length,.own 1 d.flows.length],.agg [.int .i64 p.kind,.int .i64 p.frm.a,.int .i64 p.frm.p,.int .i64 p.to.a,.int .i64 p.to.p,.int .i64 p.at_,.str p.text]] (qja (dIn d p)):=by
 refine mP dg200 Tryz.ntmps200 ⟨_,_,rfl,rfl⟩ ?_
 obtain⟨hm,hfl,_⟩:=q0i.1 hd
 have hdr:=E.door_iff.1 hi
 simp only[qr8,go_sem]
 refine q0l (c240 d.map p.to.p hm (by omega)) [0] false (by simp only[go_sem];first|done|simp[E.row,Pc.row,Pair.row,Part.row,Flw.row,Pk.row,Conv.row]) (by simp only[List.mem_singleton];rintro c rfl;rfl) rfl (.inr rfl) ?_
 simp only[go_sem]
 cases hin:q0p d.map p.to.p with
 | none =>
   simp only[go_sem,Option.isSome_none,Option.getD_none,E.zero]
   refine q0l (c230 d.flows ⟨0,0⟩ p.frm (by omega)) [1] false (by simp only[go_sem];first|done|simp[E.row,Pc.row,Pair.row,Part.row,Flw.row,Pk.row,Conv.row]) (by simp only[List.mem_singleton];rintro c rfl;rfl) rfl (.inr rfl) ?_
   simp only[go_sem]
   with_reducible repeat' (first|refine br ?_ ?_<;>intro h e<;>(try simp only[e,go_sem])<;>clear e|rw[q01 (by omega)]|refine sd ?_<;>try simp only[go_sem]|fail)
   refine q1i (q:=none) 0 1 (q59 hin) ?_ ?_ ?_ ?_ ?_ ?_ ?_ (by decide)<;>simp only[go_sem,Option.isSome_none,Option.getD_none,Pk.zero,E.zero]
 | some i =>
   simp only[go_sem,Option.isSome_some,Option.getD_some]
   refine q0l (c230 d.flows i p.frm (by omega)) [1] false (by simp only[go_sem];first|done|simp[E.row,Pc.row,Pair.row,Part.row,Flw.row,Pk.row,Conv.row]) (by simp only[List.mem_singleton];rintro c rfl;rfl) rfl (.inr rfl) ?_
   simp only[go_sem]
   cases hf:q0w d.flows i p.frm with
   | none =>
     simp only[ixI,go_sem]
     with_reducible repeat' (first|refine br ?_ ?_<;>intro h e<;>(try simp only[e,go_sem])<;>clear e|rw[q01 (by omega)]|refine sd ?_<;>try simp only[go_sem]|fail)
     refine q1i (q:=none) 0 1 (q52 hin hf) ?_ ?_ ?_ ?_ ?_ ?_ ?_ (by decide)<;>simp only[go_sem,Option.isSome_none,Option.getD_none,Pk.zero,E.zero]
   | some k =>
     obtain⟨hk,hke⟩:=q54 hin hf
     rw[hke]
     have hg:d.flows.getD k default=Flw.at d k:=rfl
     have hfk:d.flows[k]?=some (Flw.at d k):=by simp[Flw.at,List.getD,hk]
     obtain⟨_,_,x6,x7,_⟩:=q1u hd hfk
     have s1:=q0k x6
     have s2:=q0k x7
     have so:=q29 s1
     have hpa:=hp.at_
     have hpl:=hp.len
     have f1:=c236 (Flw.at d k).up s1
     have f2:=c237 (Flw.at d k).up p.at_ s1 (by omega)
     have hlt:¬((k:Int)<0):=by omega
     simp only[ixI,go_sem,eq_false hlt]
     with_reducible repeat' (first|refine br ?_ ?_<;>intro h e<;>(try simp only[e,go_sem,q03 hk,hg])<;>clear e|rw[q01 (by omega)]|refine sd ?_<;>try simp only[go_sem,q03 hk,hg]|(first|refine cr (f1 ..) ?_|refine cr (f2 ..) ?_)<;>try simp only[go_sem,q03 hk,hg]|fail)
     ·have:inK d k i p=(d,none):=by
       simp only[inK];rw[if_pos (by assumption),if_pos (by omega)]
      refine q1i (q:=none) 0 1 this ?_ ?_ ?_ ?_ ?_ ?_ ?_ (by decide)<;>simp only[go_sem,Option.isSome_none,Option.getD_none,Pk.zero,E.zero]
     ·have:inK d k i p=(d,some ⟨2,p.frm,i,q2c (Flw.at d k).up.parts p.at_,[]⟩):=by
       simp only[inK];rw[if_pos (by assumption),if_neg (by omega)]
      refine q1i 0 1 this ?_ ?_ ?_ ?_ ?_ ?_ ?_ (by decide)<;>simp only[go_sem,Option.isSome_some,Option.getD_some]
     refine q0f (c238F d.map (Flw.at d k).down p.at_ p.text ⟨hm,x7,hpa,hpl⟩) [0] [] true 73 1 (by simp only[go_sem];first|done|simp) (by simp only[go_sem];first|done|simp) (by simp) (by simp) (by simp) ?_ ?_ ?_
     ·rintro res out ⟨_,rfl,rfl⟩
      exact⟨by simp,by simp,.inl rfl,λi hi=>by obtain rfl:i=0:=(by omega);simp[chH,q07]⟩
     ·intro i hi
      obtain rfl:i=0:=by omega
      simp only[go_sem]
     have htx:=hp.tx.resolve_left (by assumption)
     have hpk:=q45 (m:=d.map) (s:=(Flw.at d k).down) (n:=p.at_) (t:=p.text) (out:=false) hm x7 htx hpa.1
     have hko:inK d k i p=if(put d.map (Flw.at d k).down p.at_ p.text false).2.2=false then(d,none)
      else(⟨d.map,d.flows.set k { Flw.at d k with down:=(put d.map (Flw.at d k).down p.at_ p.text false).2.1 }⟩,
       (q1n (Flw.at d k).down (put d.map (Flw.at d k).down p.at_ p.text false).2.1 p).map λq=>{ q with to:=i }):=by
      simp only[inK];rw[if_neg (by assumption)]
     rintro res out ⟨h,rfl,rfl⟩
     generalize hP:put d.map (Flw.at d k).down p.at_ p.text false=P at *
     obtain⟨m',s',ok'⟩:=P
     simp only at h hpk hko
     subst h
     cases ok'<;>simp only[go_sem]
     ·rw[if_pos rfl] at hko
      with_reducible repeat' (first|refine br ?_ ?_<;>intro h e<;>(try simp only[e,go_sem])<;>clear e|rw[q01 (by omega)]|refine sd ?_<;>try simp only[go_sem]|fail)
      refine q1i (q:=none) 0 1 hko ?_ ?_ ?_ ?_ ?_ ?_ ?_ (by decide)<;>simp only[go_sem,Option.isSome_none,Option.getD_none,Pk.zero,E.zero]
     rw[if_neg (by simp),q8q] at hko
     have f3:=c239 (Flw.at d k).down s' p (q0k hpk.2) (by have:=s2.1;omega) (by omega) (by omega)
     generalize hS:q80 (Flw.at d k).down s' p=S at *
     obtain⟨q,okq⟩:=S
     simp only at hko
     cases okq
     all_goals
      with_reducible repeat' (first|refine br ?_ ?_<;>intro h e<;>(try simp only[e,go_sem])<;>clear e|rw[q01 (by omega)]|refine sd ?_<;>try simp only[go_sem]|(first|refine cr (f3 ..) ?_)<;>try simp only[go_sem]|fail)
     ·refine q1i (d:=⟨d.map,d.flows.set k { Flw.at d k with down:=s' }⟩) (q:=none) 0 1 (by rw[hko];rfl) ?_ ?_ ?_ ?_ ?_ ?_ ?_ (by decide)<;>simp only[go_sem,Option.isSome_none,Option.getD_none,Pk.zero,E.zero,List.map_set,List.length_set,q03 hk,hg]
     ·refine q1i (d:=⟨d.map,d.flows.set k { Flw.at d k with down:=s' }⟩) (q:=some { q with to:=i }) 0 1 (by rw[hko];rfl) ?_ ?_ ?_ ?_ ?_ ?_ ?_ (by decide)<;>simp only[go_sem,Option.isSome_some,Option.getD_some,List.map_set,List.length_set,q03 hk,hg]
def qqf:IC:=sR [oP 2 (.box 30 (.t 0)),oP 3 (.box 65 (.t 1)),oP 4 (.alloc 30 [.nils,.nils]),oP 5 (.alloc 65 [i0,i0,i0,i0,i0,i0,s0]),oP 6 (.mv cF)] (.seq (.block 0 (sR [fD 8 1 3,lA 9 2 8,oP 10 (.call 109 [.t 9]),mV 11 10,gT 12 11 (.fad 3 (.t 3)),gT 13 11 (.ld 2 true (.t 12)),gT 14 11 (.call 110 [.t 13]),pF 15 11 14,mV 7 15] (cD 7 (sR [lA 16 2 2,lA 17 7 3,oP 18 (.call 199 [.t 16,.t 17]),eX 19 18 0,eX 20 18 1,eX 21 18 2,nP (.sto 2 (.t 4) (.t 19)),nP (.sto 7 (.t 5) (.t 20)),mV 6 21] .ret) (sR [fD 23 1 3,lA 24 2 23,oP 25 (.call 110 [.t 24]),mV 26 25,gT 27 26 (.fad 3 (.t 3)),gT 28 26 (.ld 2 true (.t 27)),gT 29 26 (.call 119 [.t 28]),pF 30 26 29,mV 22 30] (cD 22 (sR [lA 31 2 2,lA 32 7 3,oP 33 (.call 200 [.t 31,.t 32]),eX 34 33 0,eX 35 33 1,eX 36 33 2,nP (.sto 2 (.t 4) (.t 34)),nP (.sto 7 (.t 5) (.t 35)),mV 6 36] .ret) .skip))))) (sR [lA 37 2 2,oP 38 (.build [i0,i0,i0,i0,i0,i0,s0] []),nP (.sto 2 (.t 4) (.t 37)),nP (.sto 7 (.t 5) (.t 38)),oP 6 (.mv cF)] .ret))
theorem dg163:Dg Tryz.prog 163 Tryz.f163 qqf [(.cell 4 2 true),(.cell 5 7 true),(.t 6)]:=⟨Tryz.func163,by kernel_rfl,by kernel_rfl⟩
theorem c163 (d:Door) (p:Pk) (hd:doorOk d=true) (hl:d.flows.length≤3) (hp:PkP p):FnP Tryz.prog G 163 0 [.arr 145 3 (d.map.map Pair.row),.arr 169 8 (d.flows.map Flw.row)]
 [.agg [.own 0 d.map.length,.own 1 d.flows.length],.agg [.int .i64 p.kind,.int .i64 p.frm.a,.int .i64 p.frm.p,.int .i64 p.to.a,.int .i64 p.to.p,.int .i64 p.at_,.str p.text]] (qja (q1a d p)):=by
 refine mP dg163 Tryz.ntmps163 ⟨_,_,rfl,rfl⟩ ?_
 simp only[qqf,go_sem]
 with_reducible repeat' (first|refine br ?_ ?_<;>intro h e<;>(try simp only[e,go_sem])<;>clear e|rw[q01 (by omega)]|refine sd ?_<;>try simp only[go_sem]|(first|refine cr (qvm ..) ?_|refine cr (c110 ..) ?_|refine cr (qga ..) ?_)<;>try simp only[go_sem]|fail)
 all_goals first
  | (have hx:q1a d p=(d,none):=by simp_all[q1a,Pk.outward,Pk.inward]
     refine q1i (q:=none) 0 1 hx ?_ ?_ ?_ ?_ ?_ ?_ ?_ (by decide)<;>simp only[go_sem,Option.isSome_none,Option.getD_none,Pk.zero,E.zero])
  | (have hx:q1a d p=q8h d p:=by simp_all[q1a,Pk.outward,Pk.inward]
     refine q1t (c199 d p hd hl hp (by assumption) (by assumption)) [0,1] [] 18 2 (by simp only[go_sem];first|done|simp) (by simp only[go_sem];first|done|simp) (by simp) (by simp) (by rintro _ _ ⟨rfl,rfl⟩;simp) (by intro i hi;rcases(show i=0∨i=1 by omega) with rfl|rfl<;>simp only[go_sem]) ?_
     rintro _ _ ⟨rfl,rfl⟩
     simp only[go_sem]
     refine q1i (d:=(q8h d p).1) (q:=(q8h d p).2) 101800 101801 hx ?_ ?_ ?_ ?_ ?_ ?_ ?_ (by decide)<;>simp only[go_sem])
  | (have hx:q1a d p=dIn d p:=by simp_all[q1a,Pk.outward,Pk.inward]
     refine q1t (c200 d p hd hp (by assumption)) [0,1] [] 33 2 (by simp only[go_sem];first|done|simp) (by simp only[go_sem];first|done|simp) (by simp) (by simp) (by rintro _ _ ⟨rfl,rfl⟩;simp) (by intro i hi;rcases(show i=0∨i=1 by omega) with rfl|rfl<;>simp only[go_sem]) ?_
     rintro _ _ ⟨rfl,rfl⟩
     simp only[go_sem]
     refine q1i (d:=(dIn d p).1) (q:=(dIn d p).2) 103300 103301 hx ?_ ?_ ?_ ?_ ?_ ?_ ?_ (by decide)<;>simp only[go_sem])
def qmj (x:M.World×Option Pk) (r:V) (out:List Hs):Prop:=r=.tup [.agg [.own 0 x.1.convs.length,.own 1 x.1.door.map.length,.own 2 x.1.door.flows.length,.own 3 x.1.nets.length],.agg (Pk.row (x.2.getD .zero)),.bool x.2.isSome]∧out=[.arr 69 10 (x.1.convs.map Conv.row),.arr 145 3 (x.1.door.map.map Pair.row),.arr 169 8 (x.1.door.flows.map Flw.row),.arr 65 7 (x.1.nets.map Pk.row)]
theorem q58 {x:M.World×Option Pk} {w:M.World} {q:Option Pk} {l:List (Nat×V)} {mm:List (Nat×Hs)} (n0 n1 n2 n3:Nat) (hx:x=(w,q)) (h4:q0e l 4=.pv 1004 0) (h5:q0e l 5=.pv 1005 0) (h6:q0e l 6=.bool q.isSome)
 (m4:q09 mm 1004=.var 33 [.own n0 w.convs.length,.own n1 w.door.map.length,.own n2 w.door.flows.length,.own n3 w.nets.length]) (m5:q09 mm 1005=.var 65 (Pk.row (q.getD .zero)))
 (m0:q09 mm n0=.arr 69 10 (w.convs.map Conv.row)) (m1:q09 mm n1=.arr 145 3 (w.door.map.map Pair.row)) (m2:q09 mm n2=.arr 169 8 (w.door.flows.map Flw.row)) (m3:q09 mm n3=.arr 65 7 (w.nets.map Pk.row))
 (hne:[n0,n1,n2,n3].Nodup):q50 [.cell 4 4 true,.cell 5 7 true,.t 6] 0 (qmj x) .ret ⟨q0e l,q09 mm⟩:=by
 subst hx
 refine q0v (.tup [.agg [.own 0 w.convs.length,.own 1 w.door.map.length,.own 2 w.door.flows.length,.own 3 w.nets.length],.agg (Pk.row (q.getD .zero)),.bool q.isSome]) [.arr 69 10 (w.convs.map Conv.row),.arr 145 3 (w.door.map.map Pair.row),.arr 169 8 (w.door.flows.map Flw.row),.arr 65 7 (w.nets.map Pk.row)] [(0,n0),(1,n1),(2,n2),(3,n3)] ?_ ⟨rfl,rfl⟩ ?_ (by simpa[q0r,q0b] using hne) (by simp only[go_sem])
 ·simp only[go_sem,h4,h5,h6,m4,m5]
 ·simp only[go_sem,m0,m1,m2,m3]
def qud:IC:=sR [oP 3 (.box 69 (.t 0)),oP 5 (.box 65 (.t 2)),oP 6 (.alloc 69 [i0,i0,i0,i0,s0,s0,i0,i0,s0,s0]),oP 7 (.alloc 65 [i0,i0,i0,i0,i0,i0,s0]),oP 8 (.mv cF)] (sR [fD 10 3 5,lA 11 2 10,fD 12 1 5,lA 13 2 12,oP 14 (.build [i0,i0,i0,i0,i0,i0,s0] [(0,(1,cI 2)),(1,(2,.t 11)),(3,(2,.t 13))]),oP 9 (.alloc 65 [i0,i0,i0,i0,i0,i0,s0]),nP (.sto 7 (.t 9) (.t 14))] (.seq (sR [mV 15 1,mV 16 15,gT 17 16 (.fad 1 (.t 5)),gT 18 16 (.ld 2 true (.t 17)),gT 19 16 (.fad 2 (.t 3)),gT 20 16 (.ld 2 true (.t 19)),gT 21 16 (.eqs true [.i,.i] (.t 18) (.t 20)),gT 22 16 (.mv (.t 21)),gF 23 22 (.fad 3 (.t 5)),gF 24 22 (.ld 2 true (.t 23)),gF 25 22 (.fad 0 (.t 3)),gF 26 22 (.ld 2 true (.t 25)),gF 27 22 (.eqs true [.i,.i] (.t 24) (.t 26)),gT 28 16 (.pick (.t 22) cT (.t 27)),pF 29 16 28,mV 30 29,gF 31 30 (.mv (.t 1)),gF 32 30 (.un .not (.t 31)),gF 33 30 (.mv (.t 32)),gT 34 33 (.fad 3 (.t 5)),gT 35 33 (.ld 2 true (.t 34)),gT 36 33 (.fad 2 (.t 3)),gT 37 33 (.ld 2 true (.t 36)),gT 38 33 (.eqs true [.i,.i] (.t 35) (.t 37)),gT 39 33 (.mv (.t 38)),gF 40 39 (.fad 1 (.t 5)),gF 41 39 (.ld 2 true (.t 40)),gF 42 39 (.call 119 [.t 41]),gF 43 39 (.un .not (.t 42)),gT 44 33 (.pick (.t 39) cT (.t 43)),gF 45 30 (.pick (.t 33) (.t 44) cF),pT 46 30 45] (cD 46 (sR [lA 47 10 3,oP 48 (.build [i0,i0,i0,i0,i0,i0,s0] []),nP (.sto 10 (.t 6) (.t 47)),nP (.sto 7 (.t 7) (.t 48)),oP 8 (.mv cF)] .ret) .skip)) (.seq (.block 0 (sR [fD 60 0 5,lD 61 1 60,oP 62 (.bin .eql (.t 61) (cI 1)),mV 63 62,gT 64 63 (.mv (.t 1)),pF 65 63 64,mV 59 65] (cD 59 (sR [fD 67 9 3,lD 68 1 67,fD 69 5 5,lD 70 1 69,fD 71 6 5,lD 72 1 71,oP 73 (.call 241 [.t 68,.t 70,.t 72]),mV 66 73,eX 74 66 0,eX 75 66 1,fD 76 9 3,nP (.sto 1 (.t 76) (.t 74))] (sR [fD 77 9 3,lD 78 1 77,oP 79 (.lens (.t 78)),fD 80 5 9,nP (.sto 1 (.t 80) (.t 79))] (.seq (.drw [0,0,1,7,15] [(0,lA 81 10 3),(1,lA 82 7 9),(2,nP (.sto 10 (.t 6) (.t 81))),(3,nP (.sto 7 (.t 7) (.t 82))),(4,oP 8 (.mv cT))]) .ret))) (sR [fD 84 0 5,lD 85 1 84,oP 86 (.bin .eql (.t 85) (cI 1)),mV 83 86] (cD 83 (sR [fD 88 8 3,lD 89 1 88,fD 90 5 5,lD 91 1 90,fD 92 6 5,lD 93 1 92,oP 94 (.call 241 [.t 89,.t 91,.t 93]),mV 87 94,eX 95 87 0,eX 96 87 1,fD 97 8 3,nP (.sto 1 (.t 97) (.t 95))] (sR [fD 98 8 3,lD 99 1 98,oP 100 (.lens (.t 99)),fD 101 5 9,nP (.sto 1 (.t 101) (.t 100))] (.seq (.drw [0,0,1,7,15] [(0,lA 102 10 3),(1,lA 103 7 9),(2,nP (.sto 10 (.t 6) (.t 102))),(3,nP (.sto 7 (.t 7) (.t 103))),(4,oP 8 (.mv cT))]) .ret))) (sR [mV 105 1,mV 104 105] (cD 104 (.reg [fD 106 6 3,lD 107 1 106,fD 108 5 5,lD 109 1 108,fD 110 4 3,lD 111 1 110,oP 112 (.lens (.t 111)),oP 113 (.mn (.t 109) (.t 112)),oP 114 (.mx (.t 107) (.t 113)),fD 115 6 3,nP (.sto 1 (.t 115) (.t 114))]) (.reg [fD 49 7 3,lD 50 1 49,fD 51 5 5,lD 52 1 51,fD 53 5 3,lD 54 1 53,oP 55 (.lens (.t 54)),oP 56 (.mn (.t 52) (.t 55)),oP 57 (.mx (.t 50) (.t 56)),fD 58 7 3,nP (.sto 1 (.t 58) (.t 57))])))))))) (sR [lA 116 10 3,oP 117 (.build [i0,i0,i0,i0,i0,i0,s0] []),nP (.sto 10 (.t 6) (.t 116)),nP (.sto 7 (.t 7) (.t 117)),oP 8 (.mv cF)] .ret))))
theorem dg201:Dg Tryz.prog 201 Tryz.f201 qud [(.cell 6 10 true),(.cell 7 7 true),(.t 8)]:=⟨Tryz.func201,by kernel_rfl,by kernel_rfl⟩
theorem c201 (c:Conv) (b:Bool) (p:Pk) (hc:CvB c) (hp:PkP p):FnR Tryz.prog G 201 [.agg [.int .i64 c.ins.a,.int .i64 c.ins.p,.int .i64 c.out.a,.int .i64 c.out.p,.str c.up,.str c.down,.int .i64 c.upAck,.int .i64 c.downAck,.str c.upGot,.str c.downGot],.bool b,.agg [.int .i64 p.kind,.int .i64 p.frm.a,.int .i64 p.frm.p,.int .i64 p.to.a,.int .i64 p.to.p,.int .i64 p.at_,.str p.text]]
 (.tup [.agg (Conv.row (q40 c b p).1),.agg (Pk.row ((q40 c b p).2.getD .zero)),.bool (q40 c b p).2.isSome]):=by
 refine mF dg201 Tryz.ntmps201 ?_
 have h1:=hp.at_
 have h2:=hp.len
 have h3:=hc.upGot
 have h4:=hc.downGot
 have g1:=c241 c.upGot p.at_ p.text (by omega) (by omega) (by omega)
 have g2:=c241 c.downGot p.at_ p.text (by omega) (by omega) (by omega)
 simp only[qud,go_sem]
 cases b<;>simp only[go_sem,E.ext_iff']
 all_goals
  with_reducible repeat' (first|refine br ?_ ?_<;>intro h e<;>(try simp only[e,go_sem,E.ext_iff'])<;>clear e|rw[q01 (by omega)]|refine sd ?_<;>try simp only[go_sem,E.ext_iff']|(first|refine cr (qga ..) ?_|refine cr (g1 ..) ?_|refine cr (g2 ..) ?_)<;>try simp only[go_sem,E.ext_iff']|fail)
 all_goals clear g1 g2
 all_goals first
  | (simp_all[q40,Pk.zero,E.zero];done)
  | (have hk:p.kind=2:=by have:=hp.kd;omega
     simp_all[q40,Pk.zero,E.zero];done)
def qw0:IC:=sR [oP 2 (.box 33 (.t 0)),oP 3 (.box 65 (.t 1)),oP 4 (.alloc 33 [.nils,.nils,.nils,.nils]),oP 5 (.alloc 65 [i0,i0,i0,i0,i0,i0,s0]),oP 6 (.mv cF)] (.seq (sR [oP 7 (.mv (.c i0))] (.block 0 (.loop (.seq (sR [mV 14 7,fD 15 0 2,lD 16 1 15,oP 17 (.len (.t 16)),bN 18 .lss 14 17] (cD 18 .skip (.exit 0))) (.seq (.block 1 (sR [fD 21 0 2,lD 22 1 21,mV 23 7,oP 24 (.iad 10 (.t 22) (.t 23)),lA 25 10 24,oP 8 (.alloc 69 [i0,i0,i0,i0,s0,s0,i0,i0,s0,s0]),nP (.sto 10 (.t 8) (.t 25))] (sR [fD 26 3 3,lA 27 2 26,fD 28 0 8,lA 29 2 28,oP 30 (.eqs false [.i,.i] (.t 27) (.t 29)),mV 31 30,gT 32 31 (.fad 1 (.t 3)),gT 33 31 (.ld 2 true (.t 32)),gT 34 31 (.fad 2 (.t 8)),gT 35 31 (.ld 2 true (.t 34)),gT 36 31 (.eqs false [.i,.i] (.t 33) (.t 35)),pF 37 31 36,mV 9 37] (.seq (.drw [0,1,0,4,15,31,63,127,255,511,1023,2047,2047,6143,16383,2047,34815,100351,262143,524287,1048575] [(0,fD 38 3 3),(1,lA 39 2 38),(2,fD 40 2 8),(3,lA 41 2 40),(4,oP 42 (.eqs false [.i,.i] (.t 39) (.t 41))),(5,mV 43 42),(6,gT 44 43 (.fad 1 (.t 3))),(7,gT 45 43 (.ld 2 true (.t 44))),(8,gT 46 43 (.call 119 [.t 45])),(9,pF 47 43 46),(10,mV 48 47),(11,gT 49 48 (.ld 4 true (.t 2))),(12,gT 50 48 (.fad 0 (.t 8))),(13,gT 51 48 (.ld 2 true (.t 50))),(14,gT 52 48 (.call 116 [.t 49,.t 51])),(15,gT 53 48 (.fad 1 (.t 3))),(16,gT 54 48 (.fad 1 (.t 53))),(17,gT 55 48 (.ld 1 false (.t 54))),(18,gT 56 48 (.bin .eql (.t 52) (.t 55))),(19,pF 57 48 56),(20,mV 10 57)]) (sR [mV 58 9,mV 59 58,gF 60 59 (.mv (.t 10)),pT 61 59 60] (cD 61 (sR [lA 63 10 8,mV 64 9,lA 65 7 3,oP 66 (.call 201 [.t 63,.t 64,.t 65]),mV 62 66,eX 67 62 0,eX 68 62 1,eX 69 62 2,oP 11 (.alloc 69 [i0,i0,i0,i0,s0,s0,i0,i0,s0,s0]),oP 12 (.alloc 65 [i0,i0,i0,i0,i0,i0,s0]),nP (.sto 10 (.t 11) (.t 67)),nP (.sto 7 (.t 12) (.t 68)),mV 13 69] (sR [fD 70 0 2,lD 71 1 70,mV 72 7,lA 73 10 11,oP 74 (.iad 10 (.t 71) (.t 72)),nP (.sto 10 (.t 74) (.t 73))] (.seq (.drw [0,0,0,1,11,31] [(0,lA 75 4 2),(1,lA 76 7 12),(2,mV 77 13),(3,nP (.sto 4 (.t 4) (.t 75))),(4,nP (.sto 7 (.t 5) (.t 76))),(5,mV 6 77)]) .ret))) .skip)))))) (.reg [mV 19 7,oP 20 (.bin .add (.t 19) (cI 1)),mV 7 20])))))) (sR [lA 78 4 2,oP 79 (.build [i0,i0,i0,i0,i0,i0,s0] []),nP (.sto 4 (.t 4) (.t 78)),nP (.sto 7 (.t 5) (.t 79)),oP 6 (.mv cF)] .ret))
theorem dg164:Dg Tryz.prog 164 Tryz.f164 qw0 [(.cell 4 4 true),(.cell 5 7 true),(.t 6)]:=⟨Tryz.func164,by kernel_rfl,by kernel_rfl⟩
theorem x164 {X:List (E×E)} (w:M.World) (p:Pk) (hw:WX X w) (hp:PkP p):FnP Tryz.prog G 164 0 [.arr 69 10 (w.convs.map Conv.row),.arr 145 3 (w.door.map.map Pair.row),.arr 169 8 (w.door.flows.map Flw.row),.arr 65 7 (w.nets.map Pk.row)] [.agg [.own 0 w.convs.length,.own 1 w.door.map.length,.own 2 w.door.flows.length,.own 3 w.nets.length],.agg [.int .i64 p.kind,.int .i64 p.frm.a,.int .i64 p.frm.p,.int .i64 p.to.a,.int .i64 p.to.p,.int .i64 p.at_,.str p.text]] (qmj (q83 w p)):=by
 refine mP dg164 Tryz.ntmps164 ⟨_,_,rfl,rfl⟩ ?_
 have hml:=(q0c (q0i.1 hw.door).1).2
 have hcl:=hw.cl
 simp only[qw0,go_sem]
 refine q0h (λk:Nat=>⟨q0e [(2,.pv 1002 0),(3,.pv 1003 0),(4,.pv 1004 0),(5,.pv 1005 0),(7,.int .i64 (k:Int))],q09 [(1002,.var 33 [.own 0 w.convs.length,.own 1 w.door.map.length,.own 2 w.door.flows.length,.own 3 w.nets.length]),(1003,.var 65 [.int .i64 p.kind,.int .i64 p.frm.a,.int .i64 p.frm.p,.int .i64 p.to.a,.int .i64 p.to.p,.int .i64 p.at_,.str p.text]),(1004,.var 33 [.nils,.nils,.nils,.nils]),(1005,.var 65 [.int .i64 0,.int .i64 0,.int .i64 0,.int .i64 0,.int .i64 0,.int .i64 0,.str []]),(0,.arr 69 10 (w.convs.map Conv.row)),(1,.arr 145 3 (w.door.map.map Pair.row)),(2,.arr 169 8 (w.door.flows.map Flw.row)),(3,.arr 65 7 (w.nets.map Pk.row))]⟩)
  (λk=>w.convs.length - k) (λk=>k≤w.convs.length∧(w.convs.take k).any (q41 w p)=false) 0 (leQ []) ⟨Nat.zero_le _,by simp⟩ ?_
 intro k ⟨hk,ha⟩
 simp only[go_sem]
 by_cases h:(k:Int)<w.convs.length
 ·have hil:k<w.convs.length:=by omega
  have hg:w.convs.getD k default=w.convs[k]:=by simp[List.getD,hil]
  have hat:=qbr (w:=w) (p:=p) hil ha
  have hstep:q41 w p w.convs[k]=false→(w.convs.take (k+1)).any (q41 w p)=false:=λhm=>by
   rw[List.take_add_one,zE hil]
   simp only[Option.toList_some,List.any_append,ha,List.any_cons,List.any_nil,Bool.or_false,Bool.false_or,hm]
  have hB:=q3f (hw.cv _ (List.getElem_mem hil))
  rw[qau] at hat hstep
  simp only[eq_comm (a:=p.frm.p)] at hat hstep
  simp only[eq_true h,go_sem]
  generalize hc:w.convs[k]=c at *
  generalize hinw:(decide (p.to=c.ins)&&decide (p.frm=c.out))=inw at *
  have g1:=λb=>c201 c b p hB hp
  have g2:=c116 w c.ins (by omega)
  with_reducible repeat' (first|refine br ?_ ?_<;>intro h e<;>(try simp only[e,go_sem,q03 hil,hg,hc,E.ext_iff'])<;>clear e|rw[q01 (by omega)]|refine sd ?_<;>try simp only[go_sem,q03 hil,hg,hc,E.ext_iff']|(first|refine cr (qga ..) ?_|refine cf (g2 ..) [0,1,2,3] ?_|refine cr (g1 ..) ?_)<;>try simp only[go_sem,q03 hil,hg,hc,E.ext_iff']|fail)
  all_goals clear g1 g2
  all_goals first
   | (refine⟨k+1,by omega,⟨by omega,hstep ?_⟩,(leQ [])⟩
      simp_all;done)
   | (have hh:=hat (by simp_all)
      have hi:inw=true:=by simp_all
      rw[hi] at hh
      refine q58 (w:={ w with convs:=w.convs.set k (q40 c true p).1 }) (q:=(q40 c true p).2) 0 1 2 3 hh ?_ ?_ ?_ ?_ ?_ ?_ ?_ ?_ ?_ (by decide)
      all_goals simp only[go_sem,List.map_set,List.length_set,q03 hil,hg]
      done)
   | (have hh:=hat (by simp_all)
      have hi:inw=false:=by simp_all
      rw[hi] at hh
      refine q58 (w:={ w with convs:=w.convs.set k (q40 c false p).1 }) (q:=(q40 c false p).2) 0 1 2 3 hh ?_ ?_ ?_ ?_ ?_ ?_ ?_ ?_ ?_ (by decide)
      all_goals simp only[go_sem,List.map_set,List.length_set,q03 hil,hg]
      done)
 ·simp only[eq_false h,go_sem]
  have:k=w.convs.length:=by omega
  subst this
  rw[List.take_length] at ha
  rw[qbw ha]
  refine q58 (q:=none) 0 1 2 3 rfl ?_ ?_ ?_ ?_ ?_ ?_ ?_ ?_ ?_ (by decide)<;>simp only[go_sem,Option.isSome_none,Option.getD_none,Pk.zero,E.zero]
def qw9:IC:=sR [oP 2 (.box 33 (.t 0)),oP 3 (.box 65 (.t 1)),oP 4 (.alloc 33 [.nils,.nils,.nils,.nils]),oP 5 (.alloc 65 [i0,i0,i0,i0,i0,i0,s0]),oP 6 (.mv cF)] (.seq (sR [fD 10 3 3,lA 11 2 10,oP 12 (.call 119 [.t 11]),mV 13 12,gF 14 13 (.fad 1 (.t 3)),gF 15 13 (.ld 2 true (.t 14)),gF 16 13 (.call 109 [.t 15]),pT 17 13 16] (cD 17 (sR [fD 19 1 2,lA 20 2 19,lA 21 7 3,oP 22 (.call 163 [.t 20,.t 21]),mV 18 22,eX 23 18 0,eX 24 18 1,eX 25 18 2,oP 7 (.alloc 30 [.nils,.nils]),oP 8 (.alloc 65 [i0,i0,i0,i0,i0,i0,s0]),nP (.sto 2 (.t 7) (.t 23)),nP (.sto 7 (.t 8) (.t 24)),mV 9 25] (sR [lA 26 2 7,fD 27 1 2,nP (.sto 2 (.t 27) (.t 26))] (.seq (.drw [0,0,0,1,11,31] [(0,lA 28 4 2),(1,lA 29 7 8),(2,mV 30 9),(3,nP (.sto 4 (.t 4) (.t 28))),(4,nP (.sto 7 (.t 5) (.t 29))),(5,mV 6 30)]) .ret))) .skip)) (sR [lA 31 4 2,lA 32 7 3,oP 33 (.call 164 [.t 31,.t 32]),eX 34 33 0,eX 35 33 1,eX 36 33 2,nP (.sto 4 (.t 4) (.t 34)),nP (.sto 7 (.t 5) (.t 35)),mV 6 36] .ret))
theorem dg117:Dg Tryz.prog 117 Tryz.f117 qw9 [(.cell 4 4 true),(.cell 5 7 true),(.t 6)]:=⟨Tryz.func117,by kernel_rfl,by kernel_rfl⟩
theorem x117 {X:List (E×E)} (w:M.World) (p:Pk) (hw:WX X w) (hp:PkP p):FnP Tryz.prog G 117 0 [.arr 69 10 (w.convs.map Conv.row),.arr 145 3 (w.door.map.map Pair.row),.arr 169 8 (w.door.flows.map Flw.row),.arr 65 7 (w.nets.map Pk.row)] [.agg [.own 0 w.convs.length,.own 1 w.door.map.length,.own 2 w.door.flows.length,.own 3 w.nets.length],.agg [.int .i64 p.kind,.int .i64 p.frm.a,.int .i64 p.frm.p,.int .i64 p.to.a,.int .i64 p.to.p,.int .i64 p.at_,.str p.text]] (qmj (q1y w p)):=by
 refine mP dg117 Tryz.ntmps117 ⟨_,_,rfl,rfl⟩ ?_
 have hdoor:(p.to.door=true∨p.frm.inside=true)→q1y w p=({ w with door:=(q1a w.door p).1 },(q1a w.door p).2):=λh=>q7g (by simpa using h)
 have hhost:p.to.door=false→p.frm.inside=false→q1y w p=q83 w p:=λh1 h2=>q7r (by simp[h1,h2])
 simp only[qw9,go_sem]
 with_reducible repeat' (first|refine br ?_ ?_<;>intro h e<;>(try simp only[e,go_sem])<;>clear e|rw[q01 (by omega)]|refine sd ?_<;>try simp only[go_sem]|(first|refine cr (qga ..) ?_|refine cr (qvm ..) ?_)<;>try simp only[go_sem]|fail)
 ·refine q1t (c163 w.door p hw.door hw.flows3 hp) [1,2] [] 22 2 (by simp only[go_sem];first|done|simp) (by simp only[go_sem];first|done|simp) (by simp) (by simp) (by rintro _ _ ⟨rfl,rfl⟩;simp) (by intro i hi;rcases(show i=0∨i=1 by omega) with rfl|rfl<;>simp only[go_sem]) ?_
  rintro _ _ ⟨rfl,rfl⟩
  simp only[go_sem]
  with_reducible repeat' (first|refine br ?_ ?_<;>intro h e<;>(try simp only[e,go_sem])<;>clear e|rw[q01 (by omega)]|refine sd ?_<;>try simp only[go_sem]|fail)
  refine q58 (w:={ w with door:=(q1a w.door p).1 }) (q:=(q1a w.door p).2) 0 102200 102201 3 (hdoor (.inl (by assumption))) ?_ ?_ ?_ ?_ ?_ ?_ ?_ ?_ ?_ (by decide)<;>simp only[go_sem]
 ·refine q1t (c163 w.door p hw.door hw.flows3 hp) [1,2] [] 22 2 (by simp only[go_sem];first|done|simp) (by simp only[go_sem];first|done|simp) (by simp) (by simp) (by rintro _ _ ⟨rfl,rfl⟩;simp) (by intro i hi;rcases(show i=0∨i=1 by omega) with rfl|rfl<;>simp only[go_sem]) ?_
  rintro _ _ ⟨rfl,rfl⟩
  simp only[go_sem]
  with_reducible repeat' (first|refine br ?_ ?_<;>intro h e<;>(try simp only[e,go_sem])<;>clear e|rw[q01 (by omega)]|refine sd ?_<;>try simp only[go_sem]|fail)
  refine q58 (w:={ w with door:=(q1a w.door p).1 }) (q:=(q1a w.door p).2) 0 102200 102201 3 (hdoor (.inr (by assumption))) ?_ ?_ ?_ ?_ ?_ ?_ ?_ ?_ ?_ (by decide)<;>simp only[go_sem]
 ·refine q1t (x164 w p hw hp) [0,1,2,3] [] 33 4 (by simp only[go_sem];first|done|simp) (by simp only[go_sem];first|done|simp) (by simp) (by simp) (by rintro _ _ ⟨rfl,rfl⟩;simp) (by intro i hi;rcases(show i=0∨i=1∨i=2∨i=3 by omega) with rfl|rfl|rfl|rfl<;>simp only[go_sem]) ?_
  rintro _ _ ⟨rfl,rfl⟩
  simp only[go_sem]
  with_reducible repeat' (first|refine br ?_ ?_<;>intro h e<;>(try simp only[e,go_sem])<;>clear e|rw[q01 (by omega)]|refine sd ?_<;>try simp only[go_sem]|fail)
  refine q58 (w:=(q83 w p).1) (q:=(q83 w p).2) 103300 103301 103302 103303 (hhost (by assumption) (by assumption)) ?_ ?_ ?_ ?_ ?_ ?_ ?_ ?_ ?_ (by decide)<;>simp only[go_sem]
theorem PkP.ofNet {X:List (E×E)} {w:M.World} (h:WX X w) {k:Nat} {p:Pk} (hp:w.nets[k]?=some p):PkP p:=(h.net p (List.mem_of_getElem? hp)).pk
def qdl (w:M.World) (k a:Int):M.World :=
 if q0m a 0 ((w.nets.length:Int) - 1) then
  if k=5 then q3j w w.nets[a.toNat]?
  else if k=4 then { w with nets:=w.nets.eraseIdx a.toNat }
  else match w.nets[a.toNat]? with
   | some p=>q3j (q1y { w with nets:=w.nets.eraseIdx a.toNat } p).1 (q1y { w with nets:=w.nets.eraseIdx a.toNat } p).2
   | none=>w
 else w
theorem qan (w:M.World) (e:Ev) (h:e.kind=3∨e.kind=4∨e.kind=5):wDo w e=qdl w e.kind e.a:=by
 unfold wDo qdl
 rcases h with h|h|h<;>simp only[h]<;>simp<;>rfl
def qoo (sz c o n:Nat):Hs→Option (List (List V)×List Nat)
 | .arr _ s rows=>if s=sz then guardP (o+n≤rows.length) (some ((rows.drop o).take n,[c])) else none
 | _=>none
theorem q9k (h:Nat→Hs) (sz c o n):qex h sz (.view c o n)=qoo sz c o n (h c):=by simp only[qex,q34,qoo];cases h c<;>rfl
theorem qjx {sz c o n ty rows} (hl:o+n≤rows.length):qoo sz c o n (.arr ty sz rows)=some ((rows.drop o).take n,[c]):=by
 simp[qoo,guardP,hl]
def ic59:IC:=sR [oP 2 (.box 33 (.t 0)),oP 3 (.box 67 (.t 1)),oP 4 (.alloc 33 [.nils,.nils,.nils,.nils])] (.seq (sR [fD 9 1 3,lD 10 1 9,fD 11 3 2,lD 12 1 11,oP 13 (.len (.t 12)),oP 14 (.bin .sub (.t 13) (cI 1)),oP 15 (.call 114 [.t 10,.c i0,.t 14]),oP 16 (.un .not (.t 15))] (cD 16 (sR [lA 17 4 2,nP (.sto 4 (.t 4) (.t 17))] .ret) .skip)) (sR [fD 18 3 2,lD 19 1 18,fD 20 1 3,lD 21 1 20,oP 22 (.iad 7 (.t 19) (.t 21)),lA 23 7 22,oP 5 (.alloc 65 [i0,i0,i0,i0,i0,i0,s0]),nP (.sto 7 (.t 5) (.t 23))] (.seq (sR [fD 24 0 3,lD 25 1 24,oP 26 (.bin .eql (.t 25) (cI 5))] (cD 26 (sR [lA 27 4 2,lA 28 7 5,oP 29 (.call 58 [.t 27,.t 28,cT]),nP (.sto 4 (.t 4) (.t 29))] .ret) .skip)) (.seq (.drw [0,0,2,0,8,30,63,0,128,0,512,1536,3968,8191,16383,32767] [(0,oP 30 (.bsl 65 7 [])),(1,fD 31 3 2),(2,lD 32 1 31),(3,fD 33 1 3),(4,lD 34 1 33),(5,oP 35 (.slv 7 (.t 32) none (some (.t 34)))),(6,oP 36 (.app 65 7 (.t 30) (.t 35))),(7,fD 37 3 2),(8,lD 38 1 37),(9,fD 39 1 3),(10,lD 40 1 39),(11,oP 41 (.bin .add (.t 40) (cI 1))),(12,oP 42 (.slv 7 (.t 38) (some (.t 41)) none)),(13,oP 43 (.app 65 7 (.t 36) (.t 42))),(14,fD 44 3 2),(15,nP (.sto 1 (.t 44) (.t 43)))]) (.seq (sR [fD 45 0 3,lD 46 1 45,oP 47 (.bin .eql (.t 46) (cI 4))] (cD 47 (sR [lA 48 4 2,nP (.sto 4 (.t 4) (.t 48))] .ret) .skip)) (sR [lA 50 4 2,lA 51 7 5,oP 52 (.call 117 [.t 50,.t 51]),mV 49 52,eX 53 49 0,eX 54 49 1,eX 55 49 2,oP 6 (.alloc 33 [.nils,.nils,.nils,.nils]),oP 7 (.alloc 65 [i0,i0,i0,i0,i0,i0,s0]),nP (.sto 4 (.t 6) (.t 53)),nP (.sto 7 (.t 7) (.t 54)),mV 8 55] (sR [lA 56 4 6,lA 57 7 7,mV 58 8,oP 59 (.call 58 [.t 56,.t 57,.t 58]),nP (.sto 4 (.t 4) (.t 59))] .ret)))))))
theorem dg59:Dg Tryz.prog 59 Tryz.f59 ic59 [(.cell 4 4 true)]:=⟨Tryz.func59,by kernel_rfl,by kernel_rfl⟩
theorem x59 {X:List (E×E)} (w:M.World) (e:Ev) (hw:WX X w):FnP Tryz.prog G 59 0 [.arr 69 10 (w.convs.map Conv.row),.arr 145 3 (w.door.map.map Pair.row),.arr 169 8 (w.door.flows.map Flw.row),.arr 65 7 (w.nets.map Pk.row)] [.agg [.own 0 w.convs.length,.own 1 w.door.map.length,.own 2 w.door.flows.length,.own 3 w.nets.length],.agg [.int .i64 e.kind,.int .i64 e.a,.int .i64 e.b,.int .i64 e.c,.int .i64 e.pkt.kind,.int .i64 e.pkt.frm.a,.int .i64 e.pkt.frm.p,.int .i64 e.pkt.to.a,.int .i64 e.pkt.to.p,.int .i64 e.pkt.at_,.str e.pkt.text]] (q93 (qdl w e.kind e.a)):=by
 refine mP dg59 Tryz.ntmps59 ⟨_,_,rfl,rfl⟩ ?_
 have hnl:=hw.nl
 simp only[ic59,go_sem]
 rw[q01 (by omega)]
 generalize hwi:q0m e.a 0 ((w.nets.length:Int) - 1)=b
 have hw2:b=true→0≤e.a∧e.a≤(w.nets.length:Int) - 1:=λh=>M.within_iff.1 (hwi.trans h)
 refine q0s (qda e.a 0 ((w.nets.length:Int) - 1)) rfl rfl ?_
 rw[hwi]
 cases b<;>simp only[go_sem]
 ·have hx:qdl w e.kind e.a=w:=by simp[qdl,hwi]
  rw[hx]
  exact q1j (c:=1004) 0 1 2 3 (by simp only[go_sem]) (by simp only[go_sem]) (by simp only[go_sem]) (by simp only[go_sem]) (by simp only[go_sem]) (by simp only[go_sem]) (by decide)
 have hw2:=hw2 rfl
 have hil:e.a.toNat<w.nets.length:=by omega
 have hg:w.nets.getD e.a.toNat default=w.nets[e.a.toNat]:=by simp[List.getD,hil]
 have hg2:w.nets[e.a.toNat]?=some w.nets[e.a.toNat]:=zE hil
 have hx5:e.kind=5→qdl w e.kind e.a=q3j w (some w.nets[e.a.toNat]):=λh=>by simp only[qdl,hwi,if_true];rw[if_pos h,hg2]
 have hx4:e.kind=4→qdl w e.kind e.a={ w with nets:=w.nets.eraseIdx e.a.toNat }:=λh=>by simp only[qdl,hwi,if_true];rw[if_neg (by omega),if_pos h]
 have hx3:e.kind≠5→e.kind≠4→qdl w e.kind e.a=q3j (q1y { w with nets:=w.nets.eraseIdx e.a.toNat } w.nets[e.a.toNat]).1 (q1y { w with nets:=w.nets.eraseIdx e.a.toNat } w.nets[e.a.toNat]).2:=λh h'=>by simp only[qdl,hwi,if_true];rw[if_neg h,if_neg h',hg2]
 have hpk:=PkP.ofNet hw hg2
 have hwe:=hw.erase e.a.toNat
 have herase:w.nets.eraseIdx e.a.toNat=w.nets.take e.a.toNat++w.nets.drop (e.a.toNat+1):=List.eraseIdx_eq_take_drop_succ _ _
 generalize hp:w.nets[e.a.toNat]=p at *
 have rv1:qoo 7 3 0 (e.a.toNat - 0) (.arr 65 7 (w.nets.map Pk.row))=some ((w.nets.take e.a.toNat).map Pk.row,[3]):=by
  rw[qjx (by simp;omega)];simp[List.map_take]
 have rv2:qoo 7 3 (e.a+1).toNat (w.nets.length - (e.a+1).toNat) (.arr 65 7 (w.nets.map Pk.row))=some ((w.nets.drop (e.a.toNat+1)).map Pk.row,[3]):=by
  rw[qjx (by simp;omega)]
  have:(e.a+1).toNat=e.a.toNat+1:=by omega
  rw[this,←List.map_drop,←List.map_take,List.take_of_length_le (by simp)]
 with_reducible repeat' (first|refine br ?_ ?_<;>intro h e<;>(try simp only[e,go_sem,q03 hil,hg,hp,q9k,rv1,rv2,List.length_take,List.length_drop])<;>clear e|rw[q01 (by omega)]|refine sd ?_<;>try simp only[go_sem,q03 hil,hg,hp,q9k,rv1,rv2,List.length_take,List.length_drop]|fail)
 ·have c5:=c58 w p true (by omega)
  simp only[cond_true] at c5
  rw[hx5 h]
  refine q1t c5 [0,1,2,3] [] 29 4 (by simp only[go_sem];first|done|simp) (by simp only[go_sem];first|done|simp) (by simp) (by simp) (by rintro _ _ ⟨rfl,rfl⟩;simp) (by intro i hi;rcases(show i=0∨i=1∨i=2∨i=3 by omega) with rfl|rfl|rfl|rfl<;>simp only[go_sem]) ?_
  rintro _ _ ⟨rfl,rfl⟩
  simp only[go_sem]
  with_reducible repeat' (first|refine br ?_ ?_<;>intro h e<;>(try simp only[e,go_sem])<;>clear e|rw[q01 (by omega)]|refine sd ?_<;>try simp only[go_sem]|fail)
  exact q1j (c:=1004) 102900 102901 102902 102903 (by simp only[go_sem]) (by simp only[go_sem]) (by simp only[go_sem]) (by simp only[go_sem]) (by simp only[go_sem]) (by simp only[go_sem]) (by decide)
 ·have hlen:min e.a.toNat w.nets.length+(w.nets.length - (e.a.toNat+1))=(w.nets.eraseIdx e.a.toNat).length:=by rw[herase];simp
  have hrows:(w.nets.take e.a.toNat).map Pk.row++(w.nets.drop (e.a.toNat+1)).map Pk.row=(w.nets.eraseIdx e.a.toNat).map Pk.row:=by rw[herase,List.map_append]
  simp only[hlen,hrows]
  rw[hx4 h]
  exact q1j (c:=1004) 0 1 2 1043 (by simp only[go_sem]) (by simp only[go_sem]) (by simp only[go_sem]) (by simp only[go_sem]) (by simp only[go_sem]) (by simp only[go_sem]) (by decide)
 ·have hlen:min e.a.toNat w.nets.length+(w.nets.length - (e.a.toNat+1))=(w.nets.eraseIdx e.a.toNat).length:=by rw[herase];simp
  have hrows:(w.nets.take e.a.toNat).map Pk.row++(w.nets.drop (e.a.toNat+1)).map Pk.row=(w.nets.eraseIdx e.a.toNat).map Pk.row:=by rw[herase,List.map_append]
  simp only[hlen,hrows]
  rw[hx3 (by assumption) (by assumption)]
  have hk:=(qfz hwe ⟨hpk,λhin=>(hw.net p (List.mem_of_getElem? hg2)).c hin⟩).1
  refine q1t (x117 { w with nets:=w.nets.eraseIdx e.a.toNat } p hwe hpk) [0,1,2,1043] [] 52 4 (by simp only[go_sem];first|done|simp) (by simp only[go_sem];first|done|simp) (by simp) (by simp) (by rintro _ _ ⟨rfl,rfl⟩;simp) (by intro i hi;rcases(show i=0∨i=1∨i=2∨i=3 by omega) with rfl|rfl|rfl|rfl<;>simp only[go_sem]) ?_
  rintro _ _ ⟨rfl,rfl⟩
  simp only[go_sem]
  with_reducible repeat' (first|refine br ?_ ?_<;>intro h e<;>(try simp only[e,go_sem])<;>clear e|rw[q01 (by omega)]|refine sd ?_<;>try simp only[go_sem]|fail)
  generalize q1y { w with nets:=w.nets.eraseIdx e.a.toNat } p=r at *
  obtain⟨v,o⟩:=r
  simp only at hk
  have hvn:=hk.nl
  simp only[go_sem]
  with_reducible repeat' (first|refine br ?_ ?_<;>intro h e<;>(try simp only[e,go_sem])<;>clear e|rw[q01 (by omega)]|refine sd ?_<;>try simp only[go_sem]|fail)
  refine q1t (c58 v (o.getD .zero) o.isSome (by omega)) [105200,105201,105202,105203] [] 59 4 (by simp only[go_sem];first|done|simp) (by simp only[go_sem];first|done|simp) (by simp) (by simp) (by rintro _ _ ⟨rfl,rfl⟩;simp) (by intro i hi;rcases(show i=0∨i=1∨i=2∨i=3 by omega) with rfl|rfl|rfl|rfl<;>simp only[go_sem]) ?_
  rw[qoc]
  rintro _ _ ⟨rfl,rfl⟩
  simp only[go_sem]
  with_reducible repeat' (first|refine br ?_ ?_<;>intro h e<;>(try simp only[e,go_sem])<;>clear e|rw[q01 (by omega)]|refine sd ?_<;>try simp only[go_sem]|fail)
  exact q1j (c:=1004) 105900 105901 105902 105903 (by simp only[go_sem]) (by simp only[go_sem]) (by simp only[go_sem]) (by simp only[go_sem]) (by simp only[go_sem]) (by simp only[go_sem]) (by decide)
def ic24:IC:=sR [oP 2 (.box 33 (.t 0)),oP 3 (.box 67 (.t 1)),oP 4 (.alloc 33 [.nils,.nils,.nils,.nils])] (.seq (sR [fD 7 0 3,lD 8 1 7] (.block 0 (.seq (sR [oP 10 (.bin .eql (.t 8) (cI 1)),mV 9 10] (cD 9 .skip (.reg [oP 11 (.bin .eql (.t 8) (cI 2)),mV 9 11]))) (cD 9 (sR [lA 13 4 2,lA 14 11 3,oP 15 (.call 57 [.t 13,.t 14]),mV 12 15,eX 16 12 0,eX 17 12 1,oP 5 (.alloc 65 [i0,i0,i0,i0,i0,i0,s0]),nP (.sto 7 (.t 5) (.t 16)),mV 6 17] (sR [lA 18 4 2,lA 19 7 5,mV 20 6,oP 21 (.call 58 [.t 18,.t 19,.t 20]),nP (.sto 4 (.t 4) (.t 21))] .ret)) (.seq (sR [oP 23 (.bin .eql (.t 8) (cI 3)),mV 22 23] (cD 22 .skip (sR [oP 24 (.bin .eql (.t 8) (cI 4)),mV 22 24] (cD 22 .skip (.reg [oP 25 (.bin .eql (.t 8) (cI 5)),mV 22 25]))))) (cD 22 (sR [lA 26 4 2,lA 27 11 3,oP 28 (.call 59 [.t 26,.t 27]),nP (.sto 4 (.t 4) (.t 28))] .ret) (sR [oP 30 (.bin .eql (.t 8) (cI 6)),mV 29 30] (cD 29 (.seq (.drw [0,0,2,0,0,16,56,127,255] [(0,lA 31 4 2),(1,fD 32 4 3),(2,lA 33 7 32),(3,lA 34 4 2),(4,fD 35 4 3),(5,lA 36 7 35),(6,oP 37 (.call 60 [.t 34,.t 36])),(7,oP 38 (.call 58 [.t 31,.t 33,.t 37])),(8,nP (.sto 4 (.t 4) (.t 38)))]) .ret) .skip)))))))) (sR [lA 39 4 2,nP (.sto 4 (.t 4) (.t 39))] .ret))
theorem dg24:Dg Tryz.prog 24 Tryz.f24 ic24 [(.cell 4 4 true)]:=⟨Tryz.func24,by kernel_rfl,by kernel_rfl⟩
theorem x24 {X:List (E×E)} (w:M.World) (e:Ev) (hw:WX X w) (ht:e.pkt.text.length≤2000000):FnP Tryz.prog G 24 0 [.arr 69 10 (w.convs.map Conv.row),.arr 145 3 (w.door.map.map Pair.row),.arr 169 8 (w.door.flows.map Flw.row),.arr 65 7 (w.nets.map Pk.row)] [.agg [.own 0 w.convs.length,.own 1 w.door.map.length,.own 2 w.door.flows.length,.own 3 w.nets.length],.agg [.int .i64 e.kind,.int .i64 e.a,.int .i64 e.b,.int .i64 e.c,.int .i64 e.pkt.kind,.int .i64 e.pkt.frm.a,.int .i64 e.pkt.frm.p,.int .i64 e.pkt.to.a,.int .i64 e.pkt.to.p,.int .i64 e.pkt.at_,.str e.pkt.text]] (q93 (wDo w e)):=by
 refine mP dg24 Tryz.ntmps24 ⟨_,_,rfl,rfl⟩ ?_
 have hnl:=hw.nl
 have hcl:=hw.cl
 have hml:=(q0c (q0i.1 hw.door).1).2
 have hB:∀c∈w.convs,c.up.length≤2000000∧c.down.length≤2000000:=λc hc=>by
  have hb:=q3f (hw.cv c hc)
  have h1:=hb.up
  have h2:=hb.down
  omega
 simp only[ic24,go_sem]
 with_reducible repeat' (first|refine br ?_ ?_<;>intro h e<;>(try simp only[e,go_sem])<;>clear e|rw[q01 (by omega)]|refine sd ?_<;>try simp only[go_sem]|fail)
 ·refine q0l (c57 w e (by omega) (by omega) hB) [0,1,2,3] false (by simp only[go_sem];first|done|simp[E.row,Pc.row,Pair.row,Part.row,Flw.row,Pk.row,Conv.row]) (by simp only[List.mem_cons,List.not_mem_nil,or_false];rintro c (rfl|rfl|rfl|rfl)<;>simp only[go_sem]) rfl (.inr rfl) ?_
  have hx:wDo w e=q3j w (q6v w (decide (e.kind=1)) e.a e.b e.c):=by simp[wDo,h]
  rw[hx]
  generalize q6v w (decide (e.kind=1)) e.a e.b e.c=o
  simp only[go_sem]
  with_reducible repeat' (first|refine br ?_ ?_<;>intro h e<;>(try simp only[e,go_sem])<;>clear e|rw[q01 (by omega)]|refine sd ?_<;>try simp only[go_sem]|fail)
  refine q1t (c58 w (o.getD .zero) o.isSome (by omega)) [0,1,2,3] [] 21 4 (by simp only[go_sem];first|done|simp) (by simp only[go_sem];first|done|simp) (by simp) (by simp) (by rintro _ _ ⟨rfl,rfl⟩;simp) (by intro i hi;rcases(show i=0∨i=1∨i=2∨i=3 by omega) with rfl|rfl|rfl|rfl<;>simp only[go_sem]) ?_
  rw[qoc]
  rintro _ _ ⟨rfl,rfl⟩
  simp only[go_sem]
  with_reducible repeat' (first|refine br ?_ ?_<;>intro h e<;>(try simp only[e,go_sem])<;>clear e|rw[q01 (by omega)]|refine sd ?_<;>try simp only[go_sem]|fail)
  exact q1j (c:=1004) 102100 102101 102102 102103 (by simp only[go_sem]) (by simp only[go_sem]) (by simp only[go_sem]) (by simp only[go_sem]) (by simp only[go_sem]) (by simp only[go_sem]) (by decide)
 ·refine q0l (c57 w e (by omega) (by omega) hB) [0,1,2,3] false (by simp only[go_sem];first|done|simp[E.row,Pc.row,Pair.row,Part.row,Flw.row,Pk.row,Conv.row]) (by simp only[List.mem_cons,List.not_mem_nil,or_false];rintro c (rfl|rfl|rfl|rfl)<;>simp only[go_sem]) rfl (.inr rfl) ?_
  have hx:wDo w e=q3j w (q6v w (decide (e.kind=1)) e.a e.b e.c):=by simp[wDo,h]
  rw[hx]
  generalize q6v w (decide (e.kind=1)) e.a e.b e.c=o
  simp only[go_sem]
  with_reducible repeat' (first|refine br ?_ ?_<;>intro h e<;>(try simp only[e,go_sem])<;>clear e|rw[q01 (by omega)]|refine sd ?_<;>try simp only[go_sem]|fail)
  refine q1t (c58 w (o.getD .zero) o.isSome (by omega)) [0,1,2,3] [] 21 4 (by simp only[go_sem];first|done|simp) (by simp only[go_sem];first|done|simp) (by simp) (by simp) (by rintro _ _ ⟨rfl,rfl⟩;simp) (by intro i hi;rcases(show i=0∨i=1∨i=2∨i=3 by omega) with rfl|rfl|rfl|rfl<;>simp only[go_sem]) ?_
  rw[qoc]
  rintro _ _ ⟨rfl,rfl⟩
  simp only[go_sem]
  with_reducible repeat' (first|refine br ?_ ?_<;>intro h e<;>(try simp only[e,go_sem])<;>clear e|rw[q01 (by omega)]|refine sd ?_<;>try simp only[go_sem]|fail)
  exact q1j (c:=1004) 102100 102101 102102 102103 (by simp only[go_sem]) (by simp only[go_sem]) (by simp only[go_sem]) (by simp only[go_sem]) (by simp only[go_sem]) (by simp only[go_sem]) (by decide)
 ·rw[qan w e (.inl h)]
  refine q1t (x59 w e hw) [0,1,2,3] [] 28 4 (by simp only[go_sem];first|done|simp) (by simp only[go_sem];first|done|simp) (by simp) (by simp) (by rintro _ _ ⟨rfl,rfl⟩;simp) (by intro i hi;rcases(show i=0∨i=1∨i=2∨i=3 by omega) with rfl|rfl|rfl|rfl<;>simp only[go_sem]) ?_
  rintro _ _ ⟨rfl,rfl⟩
  simp only[go_sem]
  with_reducible repeat' (first|refine br ?_ ?_<;>intro h e<;>(try simp only[e,go_sem])<;>clear e|rw[q01 (by omega)]|refine sd ?_<;>try simp only[go_sem]|fail)
  exact q1j (c:=1004) 102800 102801 102802 102803 (by simp only[go_sem]) (by simp only[go_sem]) (by simp only[go_sem]) (by simp only[go_sem]) (by simp only[go_sem]) (by simp only[go_sem]) (by decide)
 ·rw[qan w e (.inr (.inl h))]
  refine q1t (x59 w e hw) [0,1,2,3] [] 28 4 (by simp only[go_sem];first|done|simp) (by simp only[go_sem];first|done|simp) (by simp) (by simp) (by rintro _ _ ⟨rfl,rfl⟩;simp) (by intro i hi;rcases(show i=0∨i=1∨i=2∨i=3 by omega) with rfl|rfl|rfl|rfl<;>simp only[go_sem]) ?_
  rintro _ _ ⟨rfl,rfl⟩
  simp only[go_sem]
  with_reducible repeat' (first|refine br ?_ ?_<;>intro h e<;>(try simp only[e,go_sem])<;>clear e|rw[q01 (by omega)]|refine sd ?_<;>try simp only[go_sem]|fail)
  exact q1j (c:=1004) 102800 102801 102802 102803 (by simp only[go_sem]) (by simp only[go_sem]) (by simp only[go_sem]) (by simp only[go_sem]) (by simp only[go_sem]) (by simp only[go_sem]) (by decide)
 ·rw[qan w e (.inr (.inr h))]
  refine q1t (x59 w e hw) [0,1,2,3] [] 28 4 (by simp only[go_sem];first|done|simp) (by simp only[go_sem];first|done|simp) (by simp) (by simp) (by rintro _ _ ⟨rfl,rfl⟩;simp) (by intro i hi;rcases(show i=0∨i=1∨i=2∨i=3 by omega) with rfl|rfl|rfl|rfl<;>simp only[go_sem]) ?_
  rintro _ _ ⟨rfl,rfl⟩
  simp only[go_sem]
  with_reducible repeat' (first|refine br ?_ ?_<;>intro h e<;>(try simp only[e,go_sem])<;>clear e|rw[q01 (by omega)]|refine sd ?_<;>try simp only[go_sem]|fail)
  exact q1j (c:=1004) 102800 102801 102802 102803 (by simp only[go_sem]) (by simp only[go_sem]) (by simp only[go_sem]) (by simp only[go_sem]) (by simp only[go_sem]) (by simp only[go_sem]) (by decide)
 ·have hx:wDo w e=q3j w (bif q1q w e.pkt then some e.pkt else none):=by
   simp only[wDo,h]
   cases q1q w e.pkt<;>simp[q3j]
  rw[hx]
  refine q0l (c60 w e.pkt (by omega) ht) [0,1,2,3] false (by simp only[go_sem];first|done|simp[E.row,Pc.row,Pair.row,Part.row,Flw.row,Pk.row,Conv.row]) (by simp only[List.mem_cons,List.not_mem_nil,or_false];rintro c (rfl|rfl|rfl|rfl)<;>simp only[go_sem]) rfl (.inr rfl) ?_
  generalize q1q w e.pkt=o
  simp only[go_sem]
  with_reducible repeat' (first|refine br ?_ ?_<;>intro h e<;>(try simp only[e,go_sem])<;>clear e|rw[q01 (by omega)]|refine sd ?_<;>try simp only[go_sem]|fail)
  refine q1t (c58 w e.pkt o (by omega)) [0,1,2,3] [] 38 4 (by simp only[go_sem];first|done|simp) (by simp only[go_sem];first|done|simp) (by simp) (by simp) (by rintro _ _ ⟨rfl,rfl⟩;simp) (by intro i hi;rcases(show i=0∨i=1∨i=2∨i=3 by omega) with rfl|rfl|rfl|rfl<;>simp only[go_sem]) ?_
  rintro _ _ ⟨rfl,rfl⟩
  simp only[go_sem]
  with_reducible repeat' (first|refine br ?_ ?_<;>intro h e<;>(try simp only[e,go_sem])<;>clear e|rw[q01 (by omega)]|refine sd ?_<;>try simp only[go_sem]|fail)
  exact q1j (c:=1004) 103800 103801 103802 103803 (by simp only[go_sem]) (by simp only[go_sem]) (by simp only[go_sem]) (by simp only[go_sem]) (by simp only[go_sem]) (by simp only[go_sem]) (by decide)
 ·have hx:wDo w e=w:=by simp only[wDo];simp[*]
  rw[hx]
  exact q1j (c:=1004) 0 1 2 3 (by simp only[go_sem]) (by simp only[go_sem]) (by simp only[go_sem]) (by simp only[go_sem]) (by simp only[go_sem]) (by simp only[go_sem]) (by decide)
theorem c24 (w:M.World) (e:Ev) (hw:WI w) (ht:e.pkt.text.length≤2000000):FnP Tryz.prog G 24 0 [.arr 69 10 (w.convs.map Conv.row),.arr 145 3 (w.door.map.map Pair.row),.arr 169 8 (w.door.flows.map Flw.row),.arr 65 7 (w.nets.map Pk.row)] [.agg [.own 0 w.convs.length,.own 1 w.door.map.length,.own 2 w.door.flows.length,.own 3 w.nets.length],.agg [.int .i64 e.kind,.int .i64 e.a,.int .i64 e.b,.int .i64 e.c,.int .i64 e.pkt.kind,.int .i64 e.pkt.frm.a,.int .i64 e.pkt.frm.p,.int .i64 e.pkt.to.a,.int .i64 e.pkt.to.p,.int .i64 e.pkt.at_,.str e.pkt.text]] (q93 (wDo w e)) :=
 x24 w e hw.x ht
def ic56:IC:=sR [oP 2 (.mv cF)] (.seq (sR [oP 3 (.mv (.c i0))] (.block 0 (.loop (.seq (sR [mV 5 3,mV 6 0,oP 7 (.len (.t 6)),bN 8 .lss 5 7] (cD 8 .skip (.exit 0))) (.seq (.block 1 (.seq (sR [oP 4 (.mv (.c i0))] (.block 2 (.loop (.seq (sR [mV 11 4,mV 12 3,bN 13 .lss 11 12] (cD 13 .skip (.exit 2))) (.seq (.block 3 (.seq (.drw [0,0,3,7,15,0,0,96,224,480,1023,2047,4095,4095,16383,32767,65535,4095,4095,397311,921599,1970175,4194303,8388607] [(0,mV 16 0),(1,mV 17 4),(2,oP 18 (.iad 10 (.t 16) (.t 17))),(3,fD 19 0 18),(4,lA 20 2 19),(5,mV 21 0),(6,mV 22 3),(7,oP 23 (.iad 10 (.t 21) (.t 22))),(8,fD 24 0 23),(9,lA 25 2 24),(10,oP 26 (.eqs false [.i,.i] (.t 20) (.t 25))),(11,mV 27 26),(12,gF 28 27 (.mv (.t 0))),(13,gF 29 27 (.mv (.t 4))),(14,gF 30 27 (.iad 10 (.t 28) (.t 29))),(15,gF 31 27 (.fad 2 (.t 30))),(16,gF 32 27 (.ld 2 true (.t 31))),(17,gF 33 27 (.mv (.t 0))),(18,gF 34 27 (.mv (.t 3))),(19,gF 35 27 (.iad 10 (.t 33) (.t 34))),(20,gF 36 27 (.fad 2 (.t 35))),(21,gF 37 27 (.ld 2 true (.t 36))),(22,gF 38 27 (.eqs false [.i,.i] (.t 32) (.t 37))),(23,pT 39 27 38)]) (cD 39 (sR [oP 2 (.mv cF)] .ret) .skip))) (.reg [mV 14 4,oP 15 (.bin .add (.t 14) (cI 1)),mV 4 15])))))) (sR [mV 40 0,mV 41 3,oP 42 (.iad 10 (.t 40) (.t 41)),lA 43 10 42,oP 44 (.call 113 [.t 43]),oP 45 (.un .not (.t 44))] (cD 45 (sR [oP 2 (.mv cF)] .ret) .skip)))) (.reg [mV 9 3,oP 10 (.bin .add (.t 9) (cI 1)),mV 3 10])))))) (sR [mV 46 0,oP 47 (.len (.t 46)),oP 48 (.bin .leq (.t 47) (cI 2)),mV 2 48] .ret))
theorem dg56:Dg Tryz.prog 56 Tryz.f56 ic56 [(.t 2)]:=⟨Tryz.func56,by kernel_rfl,by kernel_rfl⟩
theorem c56 (cs:List Conv) (hl:cs.length≤2000000) (hB:∀c∈cs,(c.up.length≤2000000∧c.down.length≤2000000)∧c.upGot.length≤2000000∧c.downGot.length≤2000000):FnR Tryz.prog G 56 [.sl 10 (cs.map Conv.row)] (.bool (q16 cs)):=by
 refine mF dg56 Tryz.ntmps56 ?_
 simp only[ic56,go_sem]
 refine q0h (λi:Nat=>⟨q0e [(0,.sl 10 (cs.map Conv.row)),(3,.int .i64 (i:Int))],q09 []⟩) (λi=>cs.length - i) (λi=>i≤cs.length∧∀j,j<i→q6h cs j=true) 0 (leQ []) ⟨Nat.zero_le _,by omega⟩ ?_
 intro i ⟨hi,ha⟩
 simp only[go_sem]
 by_cases h:(i:Int)<cs.length
 ·have hil:i<cs.length:=by omega
  have hg:cs.getD i default=cs[i]:=by simp[List.getD,hil]
  have hok:=q7y hil
  obtain⟨⟨b1,b2⟩,b3,b4⟩:=hB _ (List.getElem_mem hil)
  simp only[eq_true h,go_sem]
  refine q0h (λk:Nat=>⟨q0e [(0,.sl 10 (cs.map Conv.row)),(3,.int .i64 (i:Int)),(4,.int .i64 (k:Int))],q09 []⟩) (λk=>i - k) (λk=>k≤i∧(cs.take k).any (λo=>decide (o.ins=cs[i].ins)||decide (o.out=cs[i].out))=false) 0 (leQ []) ⟨Nat.zero_le _,by simp⟩ ?_
  intro k ⟨hk,hka⟩
  simp only[go_sem]
  by_cases h2:(k:Int)<i
  ·have hkl:k<cs.length:=by omega
   have hgk:cs.getD k default=cs[k]:=by simp[List.getD,hkl]
   simp only[eq_true h2,go_sem]
   have bad:(cs[k].ins=cs[i].ins∨cs[k].out=cs[i].out)→q16 cs=false:=λhb=>q63 hil (by
    have:(cs.take i).any (λo=>decide (o.ins=cs[i].ins)||decide (o.out=cs[i].out))=true:=List.any_eq_true.2 ⟨cs[k],List.mem_iff_getElem?.2 ⟨k,by rw[List.getElem?_take,if_pos (by omega)];exact zE hkl⟩,by simpa using hb⟩
    rw[hok,this];simp)
   with_reducible repeat' (first|refine br ?_ ?_<;>intro h e<;>(try simp only[e,go_sem,hg,hgk,E.ext_iff'])<;>clear e|rw[q01 (by omega)]|refine sd ?_<;>try simp only[go_sem,hg,hgk,E.ext_iff']|fail)
   ·exact bad (.inl (by assumption))
   ·exact bad (.inr (by assumption))
   ·refine⟨k+1,by omega,⟨by omega, ?_⟩,(leQ [])⟩
    rw[List.take_add_one,zE hkl]
    simp only[Option.toList_some,List.any_append,hka,List.any_cons,List.any_nil,Bool.or_false,Bool.false_or,Bool.or_eq_false_iff,decide_eq_false_iff_not]
    exact⟨by assumption,by assumption⟩
  ·simp only[eq_false h2,go_sem]
   obtain rfl:k=i:=by omega
   have c1:=c113 cs[k] b1 b2 b3 b4
   with_reducible repeat' (first|refine br ?_ ?_<;>intro h e<;>(try simp only[e,go_sem,hg])<;>clear e|rw[q01 (by omega)]|refine sd ?_<;>try simp only[go_sem,hg]|(first|refine cr (c1 ..) ?_)<;>try simp only[go_sem,hg]|fail)
   ·refine⟨k+1,by omega,⟨by omega,λj hj=>?_⟩,(leQ [])⟩
    rcases Nat.lt_or_ge j k with hjk|hjk
    ·exact ha j hjk
    ·obtain rfl:j=k:=by omega
     rw[hok,hka];simp[*]
   ·exact q63 hil (by rw[hok];simp[*])
 ·simp only[eq_false h,go_sem]
  have:i=cs.length:=by omega
  subst this
  with_reducible repeat' (first|refine br ?_ ?_<;>intro h e<;>(try simp only[e,go_sem])<;>clear e|rw[q01 (by omega)]|refine sd ?_<;>try simp only[go_sem]|fail)
  have h1:=q25 (cs:=cs)
  by_cases h2:cs.length≤2
  ·rw[h1.2 ⟨h2,ha⟩];exact(decide_eq_true (by omega)).symm
  ·have:q16 cs=false:=by
    cases ht:q16 cs with
    | false=>rfl
    | true=>exact absurd (h1.1 ht).1 h2
   rw[this];exact(decide_eq_false (by omega)).symm
def qsx (o:Option M.World) (r:V) (out:List Hs):Prop:=(∃w,o=some w∧r=.tup [.agg [.own 0 w.convs.length,.own 1 w.door.map.length,.own 2 w.door.flows.length,.own 3 w.nets.length],.bool true]∧out=[.arr 69 10 (w.convs.map Conv.row),.arr 145 3 (w.door.map.map Pair.row),.arr 169 8 (w.door.flows.map Flw.row),.arr 65 7 (w.nets.map Pk.row)])∨(o=none∧r=.tup [.agg [.nils,.nils,.nils,.nils],.bool false]∧out=[])
theorem qeg (o:Option M.World):∃r out,qsx o r out:=by
 cases o with
 | none=>exact⟨_,_,.inr ⟨rfl,rfl,rfl⟩⟩
 | some w=>exact⟨_,_,.inl ⟨w,rfl,rfl,rfl⟩⟩
theorem q8b (c:Conv) (cs:List Conv):q10 (c::cs)=match q1f c.ins c.out c.up c.down with
 | some n=>(q10 cs).map (n::·)
 | none=>none:=by
 simp only[q10]
 cases q1f c.ins c.out c.up c.down<;>cases q10 cs<;>rfl
theorem qd2 {i o:E} {up down:B} {n:Conv} (h:q1f i o up down=some n):n=⟨i,o,up,down,0,0,[],[]⟩:=by
 unfold q1f at h
 split at h<;>cases h
 rfl
theorem qbj {pin:Nat} {o:Option M.World} {l:List (Nat×V)} {mm:List (Nat×Hs)} {d c e:Nat} (ho:o=none) (h2:q0e l d=.pv c 0) (h3:q0e l e=.bool false) (m2:q09 mm c=.var 33 [.nils,.nils,.nils,.nils]) :
 q50 [.cell d 4 true,.t e] 0 (qsx o) .ret ⟨q0e l,q09 mm⟩:=by
 refine q0v (.tup [.agg [.nils,.nils,.nils,.nils],.bool false]) [] [] ?_ (.inr ⟨ho,rfl,rfl⟩) (by simp only[go_sem]) (by simp[q0r]) (by simp only[go_sem])
 simp only[go_sem,h2,h3,m2]
theorem qe9 {o:Option M.World} {w:M.World} {l:List (Nat×V)} {mm:List (Nat×Hs)} {d c e:Nat} (n0 n1 n2 n3:Nat) (ho:o=some w) (h4:q0e l d=.pv c 0) (h5:q0e l e=.bool true)
 (m4:q09 mm c=.var 33 [.own n0 w.convs.length,.own n1 w.door.map.length,.own n2 w.door.flows.length,.own n3 w.nets.length])
 (m0:q09 mm n0=.arr 69 10 (w.convs.map Conv.row)) (m1:q09 mm n1=.arr 145 3 (w.door.map.map Pair.row)) (m2:q09 mm n2=.arr 169 8 (w.door.flows.map Flw.row)) (m3:q09 mm n3=.arr 65 7 (w.nets.map Pk.row))
 (hne:[n0,n1,n2,n3].Nodup):q50 [.cell d 4 true,.t e] 0 (qsx o) .ret ⟨q0e l,q09 mm⟩:=by
 refine q0v (.tup [.agg [.own 0 w.convs.length,.own 1 w.door.map.length,.own 2 w.door.flows.length,.own 3 w.nets.length],.bool true]) [.arr 69 10 (w.convs.map Conv.row),.arr 145 3 (w.door.map.map Pair.row),.arr 169 8 (w.door.flows.map Flw.row),.arr 65 7 (w.nets.map Pk.row)] [(0,n0),(1,n1),(2,n2),(3,n3)] ?_ (.inl ⟨w,ho,rfl,rfl⟩) ?_ (by simpa[q0r,q0b] using hne) (by simp only[go_sem])
 ·simp only[go_sem,h4,h5,m4]
 ·simp only[go_sem,m0,m1,m2,m3]
def ic23:IC:=sR [oP 2 (.alloc 33 [.nils,.nils,.nils,.nils]),oP 3 (.mv cF)] (sR [oP 8 (.bsl 69 10 []),oP 9 (.bsl 145 3 []),oP 10 (.bsl 169 8 []),oP 11 (.build [.nils,.nils] [(0,(1,.t 9)),(1,(1,.t 10))]),oP 12 (.bsl 65 7 []),oP 13 (.build [.nils,.nils,.nils,.nils] [(0,(1,.t 8)),(1,(2,.t 11)),(3,(1,.t 12))]),oP 4 (.alloc 33 [.nils,.nils,.nils,.nils]),nP (.sto 4 (.t 4) (.t 13))] (.seq (sR [oP 5 (.mv (.c i0))] (.block 0 (.loop (.seq (sR [mV 14 5,mV 15 0,oP 16 (.len (.t 15)),bN 17 .lss 14 16] (cD 17 .skip (.exit 0))) (.seq (.block 1 (.seq (.drw [0,0,3,7,15,0,0,96,224,480,0,0,3072,7168,15360,0,0,98304,229376,491520,1048575,2097151,4194303,4194303,0,25165823,67108863] [(0,mV 21 0),(1,mV 22 5),(2,oP 23 (.iad 10 (.t 21) (.t 22))),(3,fD 24 0 23),(4,lA 25 2 24),(5,mV 26 0),(6,mV 27 5),(7,oP 28 (.iad 10 (.t 26) (.t 27))),(8,fD 29 2 28),(9,lA 30 2 29),(10,mV 31 0),(11,mV 32 5),(12,oP 33 (.iad 10 (.t 31) (.t 32))),(13,fD 34 4 33),(14,lD 35 1 34),(15,mV 36 0),(16,mV 37 5),(17,oP 38 (.iad 10 (.t 36) (.t 37))),(18,fD 39 5 38),(19,lD 40 1 39),(20,oP 41 (.call 55 [.t 25,.t 30,.t 35,.t 40])),(21,mV 20 41),(22,eX 42 20 0),(23,eX 43 20 1),(24,oP 6 (.alloc 69 [i0,i0,i0,i0,s0,s0,i0,i0,s0,s0])),(25,nP (.sto 10 (.t 6) (.t 42))),(26,mV 7 43)]) (.seq (sR [mV 44 7,oP 45 (.un .not (.t 44))] (cD 45 (sR [oP 46 (.build [.nils,.nils,.nils,.nils] []),nP (.sto 4 (.t 2) (.t 46)),oP 3 (.mv cF)] .ret) .skip)) (.reg [fD 47 0 4,lD 48 1 47,lA 49 10 6,oP 50 (.bsl 69 10 [.t 49]),oP 51 (.app 69 10 (.t 48) (.t 50)),fD 52 0 4,nP (.sto 1 (.t 52) (.t 51))])))) (.reg [mV 18 5,oP 19 (.bin .add (.t 18) (cI 1)),mV 5 19])))))) (.seq (sR [fD 53 0 4,lD 54 1 53,oP 55 (.call 56 [.t 54]),oP 56 (.un .not (.t 55))] (cD 56 (sR [oP 57 (.build [.nils,.nils,.nils,.nils] []),nP (.sto 4 (.t 2) (.t 57)),oP 3 (.mv cF)] .ret) .skip)) (sR [lA 58 4 4,nP (.sto 4 (.t 2) (.t 58)),oP 3 (.mv cT)] .ret))))
theorem dg23:Dg Tryz.prog 23 Tryz.f23 ic23 [(.cell 2 4 true),(.t 3)]:=⟨Tryz.func23,by kernel_rfl,by kernel_rfl⟩
theorem c23 (cs:List Conv) (hl:cs.length≤1048576) (hB:∀c∈cs,c.up.length≤2000000∧c.down.length≤2000000):FnP Tryz.prog G 23 0 [] [.sl 10 (cs.map Conv.row)] (qsx (q17 cs)):=by
 refine mP dg23 Tryz.ntmps23 (qeg _) ?_
 simp only[ic23,go_sem]
 refine q0h (λa:Nat×List Conv=>⟨q0e [(0,.sl 10 (cs.map Conv.row)),(2,.pv 1002 0),(4,.pv 1004 0),(5,.int .i64 (a.1:Int))],q09 [(1002,.var 33 [.nils,.nils,.nils,.nils]),(1004,.var 33 [.own 1008 a.2.length,.own 1009 0,.own 1010 0,.own 1012 0]),(1008,.arr 69 10 (a.2.map Conv.row)),(1009,.arr 145 3 []),(1010,.arr 169 8 []),(1012,.arr 65 7 [])]⟩)
  (λa=>cs.length - a.1) (λa=>a.1≤cs.length∧a.2.length=a.1∧q10 cs=(q10 (cs.drop a.1)).map (a.2++·)∧∀c∈a.2,(c.up.length≤2000000∧c.down.length≤2000000)∧c.upGot.length≤2000000∧c.downGot.length≤2000000) (0,[]) (leQ []) ⟨Nat.zero_le _,rfl,by simp,by simp⟩ ?_
 intro⟨i,ns⟩ ⟨hi,hnl,hnc,hnB⟩
 simp only at hi hnl hnc hnB
 simp only[go_sem]
 by_cases h:(i:Int)<cs.length
 ·have hil:i<cs.length:=by omega
  have hg:cs.getD i default=cs[i]:=by simp[List.getD,hil]
  obtain⟨b1,b2⟩:=hB _ (List.getElem_mem hil)
  rw[List.drop_eq_getElem_cons hil,q8b] at hnc
  have c1:=c55 cs[i].ins cs[i].out cs[i].up cs[i].down b1 b2
  simp only[eq_true h,go_sem]
  with_reducible repeat' (first|refine br ?_ ?_<;>intro h e<;>(try simp only[e,go_sem,hg])<;>clear e|rw[q01 (by omega)]|refine sd ?_<;>try simp only[go_sem,hg]|(first|refine cr (c1 ..) ?_)<;>try simp only[go_sem,hg]|fail)
  ·obtain⟨n,hn⟩:=Option.isSome_iff_exists.1 (by assumption)
   have hni:=qd2 hn
   simp only[hn,Option.getD_some] at hnc ⊢
   refine⟨(i+1,ns++[n]),by simp only;omega,⟨by simp only;omega,by simp only[zA,zC,zN];omega, ?_, ?_⟩,leN [(1008,1051)] ?_ ?_ (by simp[q0b]) (by simp only[go_sem])⟩
   ·simp only
    rw[hnc]
    cases q10 (cs.drop (i+1))<;>simp
   ·intro c hc
    rcases List.mem_append.1 hc with hc|hc
    ·exact hnB c hc
    ·simp only[List.mem_singleton] at hc
     subst hc
     rw[hni]
     exact⟨⟨b1,b2⟩,by simp,by simp⟩
   ·simp only[go_sem];simp
   ·simp only[go_sem];simp[Conv.row]
  ·refine qbj (pin:=0) (c:=1002) ?_ (by simp only[go_sem]) (by simp only[go_sem]) (by simp only[go_sem])
   have hn:q1f cs[i].ins cs[i].out cs[i].up cs[i].down=none:=by simpa using h
   rw[hn] at hnc
   simp only[Option.map_none] at hnc
   simp[q17,hnc]
 ·simp only[eq_false h,go_sem]
  have:i=cs.length:=by omega
  subst this
  rw[List.drop_length] at hnc
  simp only[q10,Option.map_some,List.append_nil] at hnc
  refine q0l (c56 ns (by omega) hnB) [1008] false (by simp only[go_sem];first|done|simp[E.row,Pc.row,Pair.row,Part.row,Flw.row,Pk.row,Conv.row]) (by simp only[List.mem_singleton];rintro c rfl;rfl) rfl (.inr rfl) ?_
  simp only[go_sem]
  cases ht:q16 ns<;>simp only[go_sem]
  ·refine qbj (pin:=0) (c:=1002) ?_ (by simp only[go_sem]) (by simp only[go_sem]) (by simp only[go_sem])
   simp[q17,hnc,ht]
  ·refine qe9 (c:=1002) (w:=⟨ns,.zero,[]⟩) 1008 1009 1010 1012 ?_ ?_ ?_ ?_ ?_ ?_ ?_ ?_ (by decide)
   ·simp[q17,hnc,ht]
   all_goals simp only[go_sem,Door.zero]
def ic7:IC:=sR [oP 4 (.alloc 33 [.nils,.nils,.nils,.nils]),oP 5 (.mv cF)] (sR [mV 10 0,oP 11 (.call 23 [.t 10]),mV 9 11,eX 12 9 0,eX 13 9 1,oP 6 (.alloc 33 [.nils,.nils,.nils,.nils]),nP (.sto 4 (.t 6) (.t 12)),mV 7 13] (.seq (sR [mV 14 7,oP 15 (.un .not (.t 14)),mV 16 15,gF 17 16 (.mv (.t 1)),gF 18 16 (.len (.t 17)),gF 19 16 (.bin .gtr (.t 18) (cI 60)),pT 20 16 19] (cD 20 (sR [oP 21 (.build [.nils,.nils,.nils,.nils] []),nP (.sto 4 (.t 4) (.t 21)),oP 5 (.mv cF)] .ret) .skip)) (.seq (sR [oP 8 (.mv (.c i0))] (.block 0 (.loop (.seq (sR [mV 22 8,mV 23 1,oP 24 (.len (.t 23)),bN 25 .lss 22 24] (cD 25 .skip (.exit 0))) (.seq (.block 1 (.drw [0,0,0,6,14,31,63] [(0,lA 28 4 6),(1,mV 29 1),(2,mV 30 8),(3,oP 31 (.iad 11 (.t 29) (.t 30))),(4,lA 32 11 31),(5,oP 33 (.call 24 [.t 28,.t 32])),(6,nP (.sto 4 (.t 6) (.t 33)))])) (.reg [mV 26 8,oP 27 (.bin .add (.t 26) (cI 1)),mV 8 27])))))) (sR [lA 34 4 6,nP (.sto 4 (.t 4) (.t 34)),oP 5 (.mv cT)] .ret))))
theorem dg7:Dg Tryz.prog 7 Tryz.f7 ic7 [(.cell 4 4 true),(.t 5)]:=⟨Tryz.func7,by kernel_rfl,by kernel_rfl⟩
theorem c7 (cs:List Conv) (es:List Ev) (hl:cs.length≤1048576) (hB:∀c∈cs,c.up.length≤2000000∧c.down.length≤2000000) (hel:es.length≤1048576) (heB:∀e∈es,e.pkt.text.length≤2000000) :
 FnP Tryz.prog G 7 0 [] [.sl 10 (cs.map Conv.row),.sl 11 (es.map Ev.row)] (qsx (q0d cs es)):=by
 refine mP dg7 Tryz.ntmps7 (qeg _) ?_
 simp only[ic7,go_sem]
 refine q0t (c23 cs hl hB) [] 11 4 (by simp only[go_sem];first|done|simp) (by simp) (by rintro _ _ (⟨w,_,rfl,rfl⟩|⟨_,rfl,rfl⟩)<;>simp) (by intro i hi;rcases(show i=0∨i=1∨i=2∨i=3 by omega) with rfl|rfl|rfl|rfl<;>simp only[go_sem]) ?_
 rintro _ _ (⟨w,hw,rfl,rfl⟩|⟨hw,rfl,rfl⟩)
 ·simp only[go_sem]
  have hwi:=q3e hw
  by_cases h60:es.length≤60
  ·have hpl:q0d cs es=some (es.foldl wDo w):=by simp only[q0d,hw];rw[if_pos h60]
   have h60':¬(60:Int)<es.length:=by omega
   simp only[eq_false h60',go_sem]
   with_reducible repeat' (first|refine br ?_ ?_<;>intro h e<;>(try simp only[e,go_sem])<;>clear e|rw[q01 (by omega)]|refine sd ?_<;>try simp only[go_sem]|fail)
   refine q0h (λa:Nat×M.World=>⟨q0e [(1,.sl 11 (es.map Ev.row)),(4,.pv 1004 0),(6,.pv 1006 0),(8,.int .i64 (a.1:Int))],q09 [(1004,.var 33 [.nils,.nils,.nils,.nils]),(1006,.var 33 [.own 101100 a.2.convs.length,.own 101101 a.2.door.map.length,.own 101102 a.2.door.flows.length,.own 101103 a.2.nets.length]),(101100,.arr 69 10 (a.2.convs.map Conv.row)),(101101,.arr 145 3 (a.2.door.map.map Pair.row)),(101102,.arr 169 8 (a.2.door.flows.map Flw.row)),(101103,.arr 65 7 (a.2.nets.map Pk.row))]⟩)
    (λa=>es.length - a.1) (λa=>a.1≤es.length∧WI a.2∧es.foldl wDo w=(es.drop a.1).foldl wDo a.2) (0,w) (leQ []) ⟨Nat.zero_le _,hwi,by simp⟩ ?_
   intro⟨k,v⟩ ⟨hk,hv,he⟩
   simp only at hk hv he
   simp only[go_sem]
   by_cases h:(k:Int)<es.length
   ·have hil:k<es.length:=by omega
    have hg:es.getD k default=es[k]:=by simp[List.getD,hil]
    rw[List.drop_eq_getElem_cons hil] at he
    simp only[eq_true h,go_sem]
    with_reducible repeat' (first|refine br ?_ ?_<;>intro h e<;>(try simp only[e,go_sem,hg])<;>clear e|rw[q01 (by omega)]|refine sd ?_<;>try simp only[go_sem,hg]|fail)
    refine q1t (c24 v es[k] hv (heB _ (List.getElem_mem hil))) [101100,101101,101102,101103] [] 33 4 (by simp only[go_sem];first|done|simp) (by simp only[go_sem];first|done|simp) (by simp) (by simp) (by rintro _ _ ⟨rfl,rfl⟩;simp) (by intro i hi;rcases(show i=0∨i=1∨i=2∨i=3 by omega) with rfl|rfl|rfl|rfl<;>simp only[go_sem]) ?_
    rintro _ _ ⟨rfl,rfl⟩
    simp only[go_sem]
    with_reducible repeat' (first|refine br ?_ ?_<;>intro h e<;>(try simp only[e,go_sem])<;>clear e|rw[q01 (by omega)]|refine sd ?_<;>try simp only[go_sem]|fail)
    exact⟨(k+1,wDo v es[k]),by simp only;omega,⟨by simp only;omega,qbu hv _,he⟩,leN [(101100,103300),(101101,103301),(101102,103302),(101103,103303)] (by simp only[go_sem];first|done|omega|rfl) (by simp only[go_sem];first|done|omega|rfl) (by simp[q0b]) (by simp only[go_sem])⟩
   ·simp only[eq_false h,go_sem]
    have:k=es.length:=by omega
    subst this
    rw[List.drop_length] at he
    refine qe9 (c:=1004) (w:=v) 101100 101101 101102 101103 (by rw[hpl,he];rfl) ?_ ?_ ?_ ?_ ?_ ?_ ?_ (by decide)<;>simp only[go_sem]
  ·have hpl:q0d cs es=none:=by simp only[q0d,hw];rw[if_neg h60]
   have h60':(60:Int)<es.length:=by omega
   simp only[eq_true h60',go_sem]
   with_reducible repeat' (first|refine br ?_ ?_<;>intro h e<;>(try simp only[e,go_sem])<;>clear e|rw[q01 (by omega)]|refine sd ?_<;>try simp only[go_sem]|fail)
   exact qbj (pin:=0) (c:=1004) hpl (by simp only[go_sem]) (by simp only[go_sem]) (by simp only[go_sem])
 ·have hpl:q0d cs es=none:=by simp only[q0d,hw]
  simp only[go_sem]
  exact qbj (pin:=0) (c:=1004) hpl (by simp only[go_sem]) (by simp only[go_sem]) (by simp only[go_sem])
theorem qlz {cs:List Conv} {es:List Ev} {w:M.World} (h:q0d cs es=some w):WI w:=by
 obtain⟨w0,h0,_,rfl⟩:=q9r h
 exact qfx (q3e h0) es
theorem bff:(false==false)=true:=rfl
theorem btt:(true==true)=true:=rfl
theorem q67:World.zero=⟨[],⟨[],[]⟩,[]⟩:=rfl
end Go.Proofs.YtpnekhiejecipaaGreatDoor.W
namespace Go.Proofs.YtpnekhiejecipaaGreatDoor.W
open Go Go.RowKit Go.Proofs Go.Proofs.YtpnekhiejecipaaGreatDoor.VL Go.Proofs.YtpnekhiejecipaaGreatDoor.M
attribute [local go_sem] q2w qe0
def qv2 (cs:List Conv) (es:List Ev) (r:V) (o:List Hs):Prop:=(q0d cs es=none∧r=.tup [.agg [.nils,.nils,.nils,.nils],.bool false]∧o=[]) ∨
 ∃w r0,q0d cs es=some w∧WI w∧r=.tup [r0,.bool true]∧((w.door.flows=[]∧qwp w r0 o)∨(∃f,w.door.flows=[f]∧qs7 w f r0 o)∨∃f g,w.door.flows=[f,g]∧qwz w f g r0 o)
theorem qh1 (cs:List Conv) (es:List Ev):∃r o,qv2 cs es r o:=by
 cases h:q0d cs es with
 | none=>exact⟨_,_,.inl ⟨h,rfl,rfl⟩⟩
 | some w =>
   have hw:=qlz h
   have h2:=hw.flows2
   match hfs:w.door.flows,h2 with
   | [],_=>exact⟨_,_,.inr ⟨w,_,h,hw,rfl,.inl ⟨hfs,rfl,rfl⟩⟩⟩
   | [f],_=>exact⟨_,_,.inr ⟨w,_,h,hw,rfl,.inr (.inl ⟨f,hfs,rfl,rfl⟩)⟩⟩
   | [f,g],_=>exact⟨_,_,.inr ⟨w,_,h,hw,rfl,.inr (.inr ⟨f,g,hfs,rfl,rfl⟩)⟩⟩
   | _::_::_::_,h=>exact absurd h (by simp)
set_option maxHeartbeats 2000000 in
theorem n10 (cs:List Conv) (es:List Ev) (hl:cs.length≤1048576) (hB:∀c∈cs,c.up.length≤2000000∧c.down.length≤2000000) (hel:es.length≤1048576) (heB:∀e∈es,e.pkt.text.length≤2000000) :
 FnP Tryz.prog G 10 0 [] [.sl 10 (cs.map Conv.row),.sl 11 (es.map Ev.row)] (qv2 cs es):=by
 refine mP dg10 Tryz.ntmps10 (qh1 cs es) ?_
 simp only[ic10,go_sem]
 refine q0t (c27 cs hl hB) [] 12 1 (by simp only[go_sem];first|done|simp) (by simp) (by rintro _ _ (⟨w,_,rfl,rfl⟩|⟨_,rfl,rfl⟩)<;>simp) (by intro i hi;obtain rfl:i=0:=(by omega);simp only[go_sem]) ?_
 rintro _ _ (⟨w,hw,rfl,rfl⟩|⟨hw,rfl,rfl⟩)
 ·simp only[go_sem]
  have hwi:=q3e hw
  obtain⟨_,_,hz,hn0⟩:=q6d hw
  by_cases h60:es.length≤60
  ·have hpl:q0d cs es=some (es.foldl wDo w):=by simp only[q0d,hw];rw[if_pos h60]
   have h60':¬(60:Int)<es.length:=by omega
   simp only[eq_false h60',go_sem]
   with_reducible repeat' (first|refine br ?_ ?_<;>intro h e<;>(try simp only[e,go_sem])<;>clear e|rw[q01 (by omega)]|refine sd ?_<;>try simp only[go_sem]|fail)
   refine q0h (λa:Nat×M.World=>⟨q0e [(4,.pv 1004 0),(6,.pv 1006 0),(23,.sl 11 (es.map Ev.row)),(24,.int .i64 es.length),(25,.int .i64 (a.1:Int))],q09 [(1004,.var 33 [.nils,.nils,.nils,.nils]),(1006,.var 33 [.own 101200 a.2.convs.length,.sl 3 (a.2.door.map.map Pair.row),.own 200001 a.2.door.flows.length,.own 200003 a.2.nets.length]),(200001,.arr 169 8 (a.2.door.flows.map Flw.row)),(101200,.arr 69 10 (a.2.convs.map Conv.row)),(200003,.arr 65 7 (a.2.nets.map Pk.row))]⟩)
    (λa=>es.length - a.1) (λa=>a.1≤es.length∧WI a.2∧es.foldl wDo w=(es.drop a.1).foldl wDo a.2) (0,w)
    (St.le_trans (qaz (row:=[.own 101200 w.convs.length,.nils,.nils,.nils]) 1006 200001 169 8 33 2 (by simp only[go_sem]) (by decide) (by simp only[go_sem]) rfl) (St.le_trans (qaz (row:=[.own 101200 w.convs.length,.nils,.own 200001 0,.nils]) 1006 200003 65 7 33 3 (by simp only[go_sem]) (by decide) (by simp only[go_sem,List.set_cons_succ,List.set_cons_zero]) rfl) (leN [] (by simp only[go_sem]) (by simp only[go_sem,hz,hn0,Door.zero,List.set_cons_succ,List.set_cons_zero]) (by simp[q0b]) (by simp only[go_sem])))) ⟨Nat.zero_le _,hwi,by simp⟩ ?_
   intro⟨k,v⟩ ⟨hk,hv,he⟩
   simp only at hk hv he
   simp only[go_sem]
   by_cases h:(k:Int)<es.length
   ·have hil:k<es.length:=by omega
    have hg:es.getD k default=es[k]:=by simp[List.getD,hil]
    rw[List.drop_eq_getElem_cons hil] at he
    simp only[eq_true h,go_sem]
    with_reducible repeat' (first|refine br ?_ ?_<;>intro h e<;>(try simp only[e,go_sem,hg])<;>clear e|rw[q01 (by omega)]|refine sd ?_<;>try simp only[go_sem,hg]|fail)
    refine q0f (c28 v es[k] hv (heB _ (List.getElem_mem hil))) [1006,200001,101200,200003] [] true 30 4 (by simp only[go_sem];first|done|simp) (by simp only[go_sem];first|done|simp) (by simp) (by simp) (by simp) ?_ ?_ ?_
    ·rintro _ _ ⟨rfl,v',hv',rfl⟩
     exact⟨by simp,by simp,.inl rfl,λi hi=>by obtain rfl:i=0:=(by omega);simp[chH,q07]⟩
    ·intro i hi
     rcases(show i=0∨i=1∨i=2∨i=3 by omega) with rfl|rfl|rfl|rfl<;>simp only[go_sem]
    rintro _ _ ⟨rfl,v',hv',rfl⟩
    simp only[go_sem]
    with_reducible repeat' (first|refine br ?_ ?_<;>intro h e<;>(try simp only[e,go_sem])<;>clear e|rw[q01 (by omega)]|refine sd ?_<;>try simp only[go_sem]|fail)
    exact⟨(k+1,v'),by simp only;omega,⟨by simp only;omega,by rw[hv'];exact qbu hv _,by rw[hv'];exact he⟩,leN [(101200,103002),(200001,103001),(200003,103003)] (by simp only[go_sem];first|done|omega|rfl) (by simp only[go_sem];first|done|omega|rfl) (by simp[q0b]) (by simp only[go_sem])⟩
   ·simp only[eq_false h,go_sem]
    have:k=es.length:=by omega
    subst this
    rw[List.drop_length] at he
    rw[show es.foldl wDo w=v from he] at hpl
    have hf2:=hv.flows2
    match hfs:v.door.flows,hf2 with
    | [],_ =>
      refine q0t (n029 v hv hfs) [101200,200001,200003] 33 4 (by simp only[go_sem,hfs];first|done|simp[hfs]) (by simp only[List.mem_cons,List.not_mem_nil,or_false];rintro c (rfl|rfl|rfl)<;>simp only[go_sem]) (by rintro _ _ ⟨rfl,rfl⟩;simp) (by intro i hi;rcases(show i=0∨i=1∨i=2∨i=3 by omega) with rfl|rfl|rfl|rfl<;>simp only[go_sem]) ?_
      rintro _ _ ⟨rfl,rfl⟩
      simp only[go_sem]
      with_reducible repeat' (first|refine br ?_ ?_<;>intro h e<;>(try simp only[e,go_sem])<;>clear e|rw[q01 (by omega)]|refine sd ?_<;>try simp only[go_sem]|fail)
      exact q0v (.tup [.agg [.own 0 v.convs.length,.own 1 v.door.map.length,.view 2 0 0,.own 3 v.nets.length],.bool true]) [.arr 69 10 (v.convs.map Conv.row),.arr 145 3 (v.door.map.map Pair.row),.var 169 [],.arr 65 7 (v.nets.map Pk.row)] [(0,103300),(1,103301),(2,103302),(3,103303)] (by simp only[go_sem]) (.inr ⟨v,_,hpl,hv,rfl,.inl ⟨hfs,rfl,rfl⟩⟩) (by simp only[go_sem]) (by simp[q0r,q0b]) (by simp only[go_sem])
    | [f],_ =>
      refine q0t (n129 v f hv hfs) [101200,200001,200003] 33 6 (by simp only[go_sem,hfs];first|done|simp[hfs]) (by simp only[List.mem_cons,List.not_mem_nil,or_false];rintro c (rfl|rfl|rfl)<;>simp only[go_sem]) (by rintro _ _ ⟨rfl,rfl⟩;simp) (by intro i hi;rcases(show i=0∨i=1∨i=2∨i=3∨i=4∨i=5 by omega) with rfl|rfl|rfl|rfl|rfl|rfl<;>simp only[go_sem]) ?_
      rintro _ _ ⟨rfl,rfl⟩
      simp only[go_sem]
      with_reducible repeat' (first|refine br ?_ ?_<;>intro h e<;>(try simp only[e,go_sem])<;>clear e|rw[q01 (by omega)]|refine sd ?_<;>try simp only[go_sem]|fail)
      exact q0v (.tup [.agg [.own 0 v.convs.length,.own 1 v.door.map.length,.view 2 1 1,.own 3 v.nets.length],.bool true]) [.arr 69 10 (v.convs.map Conv.row),.arr 145 3 (v.door.map.map Pair.row),.var 169 [.int .i64 f.ins.a,.int .i64 f.ins.p,.int .i64 f.out.a,.int .i64 f.out.p,.str f.up.inn,.own 4 f.up.parts.length,.str f.down.inn,.own 5 f.down.parts.length],.arr 65 7 (v.nets.map Pk.row),.arr 204 2 (f.up.parts.map Part.row),.arr 204 2 (f.down.parts.map Part.row)] [(0,103300),(1,103301),(2,103302),(3,103303),(4,103304),(5,103305)] (by simp only[go_sem]) (.inr ⟨v,_,hpl,hv,rfl,.inr (.inl ⟨f,hfs,rfl,rfl⟩)⟩) (by simp only[go_sem]) (by simp[q0r,q0b]) (by simp only[go_sem])
    | [f,g],_ =>
      refine q0t (n229 v f g hv hfs) [101200,200001,200003] 33 8 (by simp only[go_sem,hfs];first|done|simp[hfs]) (by simp only[List.mem_cons,List.not_mem_nil,or_false];rintro c (rfl|rfl|rfl)<;>simp only[go_sem]) (by rintro _ _ ⟨rfl,rfl⟩;simp) (by intro i hi;rcases(show i=0∨i=1∨i=2∨i=3∨i=4∨i=5∨i=6∨i=7 by omega) with rfl|rfl|rfl|rfl|rfl|rfl|rfl|rfl<;>simp only[go_sem]) ?_
      rintro _ _ ⟨rfl,rfl⟩
      simp only[go_sem]
      with_reducible repeat' (first|refine br ?_ ?_<;>intro h e<;>(try simp only[e,go_sem])<;>clear e|rw[q01 (by omega)]|refine sd ?_<;>try simp only[go_sem]|fail)
      exact q0v (.tup [.agg [.own 0 v.convs.length,.own 1 v.door.map.length,.view 2 2 2,.own 3 v.nets.length],.bool true]) [.arr 69 10 (v.convs.map Conv.row),.arr 145 3 (v.door.map.map Pair.row),.var 169 [.int .i64 f.ins.a,.int .i64 f.ins.p,.int .i64 f.out.a,.int .i64 f.out.p,.str f.up.inn,.own 4 f.up.parts.length,.str f.down.inn,.own 5 f.down.parts.length,.int .i64 g.ins.a,.int .i64 g.ins.p,.int .i64 g.out.a,.int .i64 g.out.p,.str g.up.inn,.own 6 g.up.parts.length,.str g.down.inn,.own 7 g.down.parts.length],.arr 65 7 (v.nets.map Pk.row),.arr 204 2 (f.up.parts.map Part.row),.arr 204 2 (f.down.parts.map Part.row),.arr 204 2 (g.up.parts.map Part.row),.arr 204 2 (g.down.parts.map Part.row)] [(0,103300),(1,103301),(2,103302),(3,103303),(4,103304),(5,103305),(6,103306),(7,103307)] (by simp only[go_sem]) (.inr ⟨v,_,hpl,hv,rfl,.inr (.inr ⟨f,g,hfs,rfl,rfl⟩)⟩) (by simp only[go_sem]) (by simp[q0r,q0b]) (by simp only[go_sem])
    | _::_::_::_,h=>exact absurd h (by simp)
  ·have hpl:q0d cs es=none:=by simp only[q0d,hw];rw[if_neg h60]
   have h60':(60:Int)<es.length:=by omega
   simp only[eq_true h60',go_sem]
   with_reducible repeat' (first|refine br ?_ ?_<;>intro h e<;>(try simp only[e,go_sem])<;>clear e|rw[q01 (by omega)]|refine sd ?_<;>try simp only[go_sem]|fail)
   exact q0v (.tup [.agg [.nils,.nils,.nils,.nils],.bool false]) [] [] (by simp only[go_sem]) (.inl ⟨hpl,rfl,rfl⟩) (by simp only[go_sem]) (by simp[q0r]) (by simp only[go_sem])
 ·have hpl:q0d cs es=none:=by simp only[q0d,hw]
  simp only[go_sem]
  with_reducible repeat' (first|refine br ?_ ?_<;>intro h e<;>(try simp only[e,go_sem])<;>clear e|rw[q01 (by omega)]|refine sd ?_<;>try simp only[go_sem]|fail)
  exact q0v (.tup [.agg [.nils,.nils,.nils,.nils],.bool false]) [] [] (by simp only[go_sem]) (.inl ⟨hpl,rfl,rfl⟩) (by simp only[go_sem]) (by simp[q0r]) (by simp only[go_sem])
end Go.Proofs.YtpnekhiejecipaaGreatDoor.W
