/- Part 5 of the proof: the walk over values, the plain model, contracts of the functions of the program. -/
import Derived.Test.YtiegngjdjheebaaGreatDoorZ04
import Derived.Test.YtiegngjdjheebaaGreatDoorZ03
import Derived.Test.YtiegngjdjheebaaGreatDoorZ02
set_option linter.all false
namespace Go.Proofs.YtiegngjdjheebaaGreatDoor.W
open Go Go.RowKit Go.Proofs Go.Proofs.YtiegngjdjheebaaGreatDoor.VL Go.Proofs.YtiegngjdjheebaaGreatDoor.M
theorem resL_0:resL []=some (.tup []):=rfl
theorem say_no {c:Conv} {up:Bool} {port n m:Int} (h:within n 0 ((bif up then c.up else c.down).length - 1)=false∨m<1∨(up=false∧(⟨9,port⟩:E).door=false)):say c up port n m=none:=by
 unfold say
 cases up<;>simp only[cond_true,cond_false] at h<;>simp only[Bool.false_eq_true,if_false,if_true]<;>rw[if_neg]<;>simp only[Bool.and_eq_true,decide_eq_true_eq,not_and,Bool.or_eq_true,Bool.false_eq_true,false_or,true_or,not_true_eq_false]
 ·rintro⟨h1,h2⟩ h3
  rcases h with h|h|h
  ·rw[h1] at h;cases h
  ·omega
  ·rw[h.2] at h3;cases h3
 ·rintro h1
  rcases h with h|h|h
  ·rw[h1.1] at h;cases h
  ·omega
  ·cases h.1
theorem say_yes {c:Conv} {up:Bool} {port n m:Int} (h1:within n 0 ((bif up then c.up else c.down).length - 1)=true) (h2:1≤m) (h3:up=true∨(⟨9,port⟩:E).door=true) :
 say c up port n m=some (bif up then⟨1,c.ins,c.out,n,(c.up.drop n.toNat).take (min m (c.up.length - n)).toNat⟩ else⟨1,c.out,⟨9,port⟩,n,(c.down.drop n.toNat).take (min m (c.down.length - n)).toNat⟩):=by
 unfold say
 cases up<;>simp only[cond_true,cond_false] at h1 ⊢<;>simp only[Bool.false_eq_true,if_false,if_true]<;>rw[if_pos]
 ·simp only[h1,Bool.true_and,Bool.and_eq_true,decide_eq_true_eq,Bool.false_or]
  exact⟨h2,h3.resolve_left (by simp)⟩
 ·simp only[h1,Bool.true_and,Bool.and_eq_true,decide_eq_true_eq,Bool.true_or,and_true]
  exact h2
def ic78:IC:=sR [oP 5 (.box 47 (.t 0)),oP 10 (.alloc 70 [i0,i0,i0,i0,i0,i0,s0]),oP 11 (.mv (.c (.bool false)))] (sR [fD 14 0 5,lA 15 2 14,fD 16 2 5,lA 17 2 16,mV 18 3,oP 19 (.build [i0,i0,i0,i0,i0,i0,s0] [(0,(1,.c (.int .i64 1))),(1,(2,.t 15)),(3,(2,.t 17)),(5,(1,.t 18))]),oP 12 (.alloc 70 [i0,i0,i0,i0,i0,i0,s0]),nP (.sto 7 (.t 12) (.t 19))] (sR [fD 20 4 5,lD 21 1 20,mV 13 21] (.seq (sR [mV 22 1,oP 23 (.un .not (.t 22))] (.cond (.t 23) (sR [fD 24 2 5,lA 25 2 24,mV 26 2,oP 27 (.build [i0,i0] [(0,(1,.c (.int .i64 9))),(1,(1,.t 26))]),fD 28 1 12,nP (.sto 2 (.t 28) (.t 25)),fD 29 3 12,nP (.sto 2 (.t 29) (.t 27))] (.reg [fD 30 5 5,lD 31 1 30,mV 13 31])) .skip)) (.seq (sR [mV 32 3,mV 33 13,oP 34 (.lens (.t 33)),oP 35 (.bin .sub (.t 34) (.c (.int .i64 1))),oP 36 (.call 76 [.t 32,.c i0,.t 35]),oP 37 (.un .not (.t 36)),mV 38 37,⟨some 39,some (38,false),.mv (.t 4)⟩,⟨some 40,some (38,false),.bin .lss (.t 39) (.c (.int .i64 1))⟩,oP 41 (.pick (.t 38) (.c (.bool true)) (.t 40)),mV 42 41,⟨some 43,some (42,false),.mv (.t 1)⟩,⟨some 44,some (42,false),.un .not (.t 43)⟩,⟨some 45,some (42,false),.mv (.t 44)⟩,⟨some 46,some (45,true),.fad 3 (.t 12)⟩,⟨some 47,some (45,true),.ld 2 true (.t 46)⟩,⟨some 48,some (45,true),.call 69 [.t 47]⟩,⟨some 49,some (45,true),.un .not (.t 48)⟩,⟨some 50,some (42,false),.pick (.t 45) (.t 49) (.c (.bool false))⟩,oP 51 (.pick (.t 42) (.c (.bool true)) (.t 50))] (.cond (.t 51) (sR [oP 52 (.build [i0,i0,i0,i0,i0,i0,s0] []),nP (.sto 7 (.t 10) (.t 52)),oP 11 (.mv (.c (.bool false)))] .ret) .skip)) (sR [mV 53 13,mV 54 3,mV 55 3,mV 56 4,mV 57 13,oP 58 (.lens (.t 57)),mV 59 3,bN 60 .sub 58 59,oP 61 (.mn (.t 56) (.t 60)),bN 62 .add 55 61,oP 63 (.sls (.t 53) (some (.t 54)) (some (.t 62))),fD 64 6 12,nP (.sto 1 (.t 64) (.t 63))] (sR [lA 65 7 12,nP (.sto 7 (.t 10) (.t 65)),oP 11 (.mv (.c (.bool true)))] .ret))))))
theorem dg78:Dg Tryz.prog 78 Tryz.f78 ic78 [(.cell 10 7 true),(.t 11)]:=⟨Tryz.func78,by kernel_rfl,by kernel_rfl⟩
theorem c78 (c:Conv) (up:Bool) (port n m:Int) (h1:c.up.length≤2000000) (h2:c.down.length≤2000000):FnR Tryz.prog G 78 [.agg [.int .i64 c.ins.a,.int .i64 c.ins.p,.int .i64 c.out.a,.int .i64 c.out.p,.str c.up,.str c.down,.int .i64 c.upAck,.int .i64 c.downAck,.str c.upGot,.str c.downGot],.bool up,.int .i64 port,.int .i64 n,.int .i64 m]
 (.tup [.agg (Pk.row ((say c up port n m).getD .zero)),.bool (say c up port n m).isSome]):=by
 refine mF dg78 Tryz.ntmps78 ?_
 simp only[ic78,go_sem]
 cases up<;>simp only[go_sem]
 ·have hno:=fun h=>say_no (c:=c) (up:=false) (port:=port) (n:=n) (m:=m) h
  have hyes:=fun h1 h2 h3=>say_yes (c:=c) (up:=false) (port:=port) (n:=n) (m:=m) h1 h2 h3
  simp only[cond_false,true_and,Bool.false_eq_true,false_or] at hno hyes
  rw[i64w (by omega)]
  refine callR (c76 n 0 ((c.down.length:Int) - 1)) rfl rfl ?_
  cases hw:within n 0 ((c.down.length:Int) - 1)<;>simp only[go_sem]
  ·rw[hno (.inl hw)];simp[Pk.zero,E.zero]
  have hw2:=M.within_iff.1 hw
  have w1:IntKind.i64.wrap ((c.down.length:Int) - n)=c.down.length - n:=i64w (by omega)
  have w2:1≤m→IntKind.i64.wrap (n+min m ((c.down.length:Int) - n))=n+min m ((c.down.length:Int) - n):=fun _=>i64w (by omega)
  with_reducible repeat' (first|refine br ?_ ?_<;>intro h e<;>(try simp only[e,go_sem,w1])<;>clear e|rw[i64w (by omega)]|refine sd ?_<;>try simp only[go_sem,w1]|(first|refine cr (c69 ..) ?_)<;>try simp only[go_sem,w1]|fail)
  ·rw[hno (.inr (.inl (by assumption)))];simp[Pk.zero,E.zero]
  ·have w2:=w2 (by omega)
   rw[hyes hw (by omega) (by assumption),take_drop_len (by omega) (by omega)]
   simp
  ·rw[hno (.inr (.inr (by assumption)))];simp[Pk.zero,E.zero]
 ·have hno:=fun h=>say_no (c:=c) (up:=true) (port:=port) (n:=n) (m:=m) h
  have hyes:=fun h1 h2 h3=>say_yes (c:=c) (up:=true) (port:=port) (n:=n) (m:=m) h1 h2 h3
  simp only[cond_true,true_or,true_implies,Bool.true_eq_false,false_and,or_false] at hno hyes
  rw[i64w (by omega)]
  refine callR (c76 n 0 ((c.up.length:Int) - 1)) rfl rfl ?_
  cases hw:within n 0 ((c.up.length:Int) - 1)<;>simp only[go_sem]
  ·rw[hno (.inl hw)];simp[Pk.zero,E.zero]
  have hw2:=M.within_iff.1 hw
  have w1:IntKind.i64.wrap ((c.up.length:Int) - n)=c.up.length - n:=i64w (by omega)
  have w2:1≤m→IntKind.i64.wrap (n+min m ((c.up.length:Int) - n))=n+min m ((c.up.length:Int) - n):=fun _=>i64w (by omega)
  with_reducible repeat' (first|refine br ?_ ?_<;>intro h e<;>(try simp only[e,go_sem,w1])<;>clear e|rw[i64w (by omega)]|refine sd ?_<;>try simp only[go_sem,w1]|(first|refine cr (c69 ..) ?_)<;>try simp only[go_sem,w1]|fail)
  ·rw[hno (.inr (by assumption))];simp[Pk.zero,E.zero]
  ·have w2:=w2 (by omega)
   rw[hyes hw (by omega),take_drop_len (by omega) (by omega)]
   simp
def ic77:IC:=sR [oP 4 (.box 70 (.t 1))] (sR [mV 6 2,mV 7 6,⟨some 8,some (7,true),.mv (.t 0)⟩,⟨some 9,some (7,true),.nilc (.t 8)⟩,⟨some 10,some (7,true),.fad 3 (.t 9)⟩,⟨some 11,some (7,true),.ld 1 false (.t 10)⟩,⟨some 12,some (7,true),.len (.t 11)⟩,⟨some 13,some (7,true),.bin .lss (.t 12) (.c (.int .i64 10))⟩,oP 14 (.pick (.t 7) (.t 13) (.c (.bool false)))] (.cond (.t 14) (.drw [0,0,2,6,14,0,32,126,255,511,1023] [(0,mV 15 0),(1,mV 16 0),(2,oP 17 (.nilc (.t 16))),(3,fD 18 3 17),(4,lD 19 1 18),(5,lA 20 7 4),(6,oP 21 (.bsl 70 7 [.t 20])),(7,oP 22 (.app 70 7 (.t 19) (.t 21))),(8,oP 23 (.nilc (.t 15))),(9,fD 24 3 23),(10,nP (.sto 1 (.t 24) (.t 22)))]) .skip))
theorem dg77:Dg Tryz.prog 77 Tryz.f77 ic77 []:=⟨Tryz.func77,by kernel_rfl,by kernel_rfl⟩
theorem c77 (w:M.World) (p:Pk) (ok:Bool) (hn:w.nets.length≤2000000):FnP Tryz.prog G 77 1 [.var 41 [.own 2 w.convs.length,.sl 3 (w.door.map.map Pair.row),.own 1 w.door.flows.length,.own 3 w.nets.length],.arr 181 8 (w.door.flows.map Flw.row),.arr 47 10 (w.convs.map Conv.row),.arr 70 7 (w.nets.map Pk.row)] [.pv 0 0,.agg [.int .i64 p.kind,.int .i64 p.frm.a,.int .i64 p.frm.p,.int .i64 p.to.a,.int .i64 p.to.p,.int .i64 p.at_,.str p.text],.bool ok] (fun r o=>r=.tup []∧∃v,v=send w (bif ok then some p else none)∧o=[.var 41 [.own 2 v.convs.length,.sl 3 (v.door.map.map Pair.row),.own 1 v.door.flows.length,.own 3 v.nets.length],.arr 181 8 (v.door.flows.map Flw.row),.arr 47 10 (v.convs.map Conv.row),.arr 70 7 (v.nets.map Pk.row)]):=by
 refine mP dg77 Tryz.ntmps77 ⟨_,_,rfl,_,rfl,rfl⟩ ?_
 simp only[ic77,go_sem]
 have hno:send w none=w:=rfl
 have hfull:¬w.nets.length<10→send w (some p)=w:=fun h=>by simp only[send];rw[if_neg h]
 have fin:∀l mm (v:M.World) (o:Option Pk) (n:Nat),send w o=v→v.convs=w.convs→v.door=w.door→getH mm 0=.var 41 [.own 2 w.convs.length,.sl 3 (w.door.map.map Pair.row),.own 1 w.door.flows.length,.own n v.nets.length]→getH mm 1=.arr 181 8 (w.door.flows.map Flw.row)→getH mm 2=.arr 47 10 (w.convs.map Conv.row)→getH mm n=.arr 70 7 (v.nets.map Pk.row)→n≠0→n≠1→n≠2 →
  retQ [] 1 (fun r o'=>r=.tup []∧∃v,v=send w o∧o'=[.var 41 [.own 2 v.convs.length,.sl 3 (v.door.map.map Pair.row),.own 1 v.door.flows.length,.own 3 v.nets.length],.arr 181 8 (v.door.flows.map Flw.row),.arr 47 10 (v.convs.map Conv.row),.arr 70 7 (v.nets.map Pk.row)]) .normal ⟨getL l,getH mm⟩:=fun l mm v o n h0 h1 h2 h3 h4 h5 h6 n0 n1 n2=>by
  show retQ _ _ _ .ret _
  refine retN (.tup []) [.var 41 [.own 2 v.convs.length,.sl 3 (v.door.map.map Pair.row),.own 1 v.door.flows.length,.own 3 v.nets.length],.arr 181 8 (v.door.flows.map Flw.row),.arr 47 10 (v.convs.map Conv.row),.arr 70 7 (v.nets.map Pk.row)] [(3,n)] (by simp only[go_sem,resL_0]) ⟨rfl,v,h0.symm,rfl⟩ ?_ ?_ (by simp only[go_sem])
  ·rw[h1,h2];simp only[go_sem,h3,h4,h5,h6]
  ·simp[argH,getN];omega
 cases ok<;>simp only[go_sem]
 ·exact fin _ _ w none 3 rfl rfl rfl (by simp only[go_sem]) (by simp only[go_sem]) (by simp only[go_sem]) (by simp only[go_sem]) (by omega) (by omega) (by omega)
 with_reducible repeat' (first|refine br ?_ ?_<;>intro h e<;>(try simp only[e,go_sem])<;>clear e|rw[i64w (by omega)]|refine sd ?_<;>try simp only[go_sem]|fail)
 ·have hx:send w (some p)={ w with nets:=w.nets++[p] }:=by simp only[send];rw[if_pos (by omega)]
  exact fin _ _ { w with nets:=w.nets++[p] } (some p) 1022 hx rfl rfl (by simp only[go_sem];simp) (by simp only[go_sem]) (by simp only[go_sem]) (by simp only[go_sem];simp[Pk.row]) (by omega) (by omega) (by omega)
 ·exact fin _ _ w (some p) 3 (hfull (by omega)) rfl rfl (by simp only[go_sem]) (by simp only[go_sem]) (by simp only[go_sem]) (by simp only[go_sem]) (by omega) (by omega) (by omega)
def ic127:IC:=sR [oP 5 (.box 70 (.t 2)),oP 6 (.alloc 70 [i0,i0,i0,i0,i0,i0,s0]),oP 7 (.mv (.c (.bool false)))] (.seq (.drw [0,1,3,0,8,24,0,64,192,448,960,7,2111,8191] [(0,mV 12 0),(1,oP 13 (.nilc (.t 12))),(2,fD 14 8 13),(3,mV 15 0),(4,oP 16 (.nilc (.t 15))),(5,fD 17 7 16),(6,mV 18 0),(7,oP 19 (.nilc (.t 18))),(8,fD 20 5 19),(9,lD 21 1 20),(10,oP 22 (.lens (.t 21))),(11,mV 8 14),(12,mV 9 17),(13,mV 10 22)]) (.seq (.drw [0,1,3,7,15,31,15,79,207,463,1023,2047,4095] [(0,fD 23 1 5),(1,lA 24 2 23),(2,oP 25 (.call 69 [.t 24])),(3,mV 26 25),(4,⟨some 27,some (26,true),.fad 3 (.t 5)⟩),(5,⟨some 28,some (26,true),.ld 2 true (.t 27)⟩),(6,⟨some 29,some (26,true),.mv (.t 0)⟩),(7,⟨some 30,some (26,true),.nilc (.t 29)⟩),(8,⟨some 31,some (26,true),.fad 2 (.t 30)⟩),(9,⟨some 32,some (26,true),.ld 2 true (.t 31)⟩),(10,⟨some 33,some (26,true),.eqs false [.i,.i] (.t 28) (.t 32)⟩),(11,oP 34 (.pick (.t 26) (.t 33) (.c (.bool false)))),(12,mV 11 34)]) (.seq (sR [mV 35 1] (.cond (.t 35) (.seq (.drw [0,1,3,0,8,24,0,64,192,448,960,7,2111,8191] [(0,mV 36 0),(1,oP 37 (.nilc (.t 36))),(2,fD 38 9 37),(3,mV 39 0),(4,oP 40 (.nilc (.t 39))),(5,fD 41 6 40),(6,mV 42 0),(7,oP 43 (.nilc (.t 42))),(8,fD 44 4 43),(9,lD 45 1 44),(10,oP 46 (.lens (.t 45))),(11,mV 8 38),(12,mV 9 41),(13,mV 10 46)]) (.drw [0,1,0,4,12,28,63,127,255,511,255,1279,3327,7423,16383,32767,65535] [(0,fD 47 1 5),(1,lA 48 2 47),(2,mV 49 0),(3,oP 50 (.nilc (.t 49))),(4,fD 51 2 50),(5,lA 52 2 51),(6,oP 53 (.eqs false [.i,.i] (.t 48) (.t 52))),(7,mV 54 53),(8,⟨some 55,some (54,true),.fad 3 (.t 5)⟩),(9,⟨some 56,some (54,true),.ld 2 true (.t 55)⟩),(10,⟨some 57,some (54,true),.mv (.t 0)⟩),(11,⟨some 58,some (54,true),.nilc (.t 57)⟩),(12,⟨some 59,some (54,true),.fad 0 (.t 58)⟩),(13,⟨some 60,some (54,true),.ld 2 true (.t 59)⟩),(14,⟨some 61,some (54,true),.eqs false [.i,.i] (.t 56) (.t 60)⟩),(15,oP 62 (.pick (.t 54) (.t 61) (.c (.bool false)))),(16,mV 11 62)])) .skip)) (.seq (.block 0 (sR [mV 64 11,oP 65 (.un .not (.t 64)),mV 63 65] (.cond (.t 63) (sR [oP 66 (.build [i0,i0,i0,i0,i0,i0,s0] []),nP (.sto 7 (.t 6) (.t 66)),oP 7 (.mv (.c (.bool false)))] .ret) (sR [fD 68 0 5,lD 69 1 68,oP 70 (.bin .eql (.t 69) (.c (.int .i64 2))),mV 67 70] (.cond (.t 67) (.seq (.drw [0,0,2,6,0,16,0,112,254,511,1023] [(0,mV 71 9),(1,mV 72 9),(2,oP 73 (.nilc (.t 72))),(3,lD 74 1 73),(4,fD 75 5 5),(5,lD 76 1 75),(6,mV 77 10),(7,oP 78 (.mn (.t 76) (.t 77))),(8,oP 79 (.mx (.t 74) (.t 78))),(9,oP 80 (.nilc (.t 71))),(10,nP (.sto 1 (.t 80) (.t 79)))]) (sR [oP 81 (.build [i0,i0,i0,i0,i0,i0,s0] []),nP (.sto 7 (.t 6) (.t 81)),oP 7 (.mv (.c (.bool false)))] .ret)) .skip))))) (.seq (.drw [0,0,2,6,0,16,0,64,254,510,1022,1022,2047,6143] [(0,mV 83 8),(1,mV 84 8),(2,oP 85 (.nilc (.t 84))),(3,lD 86 1 85),(4,fD 87 5 5),(5,lD 88 1 87),(6,fD 89 6 5),(7,lD 90 1 89),(8,oP 91 (.call 157 [.t 86,.t 88,.t 90])),(9,mV 82 91),(10,eX 92 82 0),(11,eX 93 82 1),(12,oP 94 (.nilc (.t 83))),(13,nP (.sto 1 (.t 94) (.t 92)))]) (.seq (.drw [0,1,0,4,0,16,48,112,255,511,1023] [(0,fD 95 3 5),(1,lA 96 2 95),(2,fD 97 1 5),(3,lA 98 2 97),(4,mV 99 8),(5,oP 100 (.nilc (.t 99))),(6,lD 101 1 100),(7,oP 102 (.lens (.t 101))),(8,oP 103 (.build [i0,i0,i0,i0,i0,i0,s0] [(0,(1,.c (.int .i64 2))),(1,(2,.t 96)),(3,(2,.t 98)),(5,(1,.t 102))])),(9,nP (.sto 7 (.t 6) (.t 103))),(10,oP 7 (.mv (.c (.bool true))))]) .ret))))))
theorem dg127:Dg Tryz.prog 127 Tryz.f127 ic127 [(.cell 6 7 true),(.t 7)]:=⟨Tryz.func127,by kernel_rfl,by kernel_rfl⟩
theorem c127 (cs:List Conv) (k:Nat) (b:Bool) (p:Pk) (hk:k<cs.length) (hc:CvB (cs.getD k default)) (hp:PkP p):FnP Tryz.prog G 127 1 [.arr 47 10 (cs.map Conv.row)] [.pa 0 k 0,.bool b,.agg [.int .i64 p.kind,.int .i64 p.frm.a,.int .i64 p.frm.p,.int .i64 p.to.a,.int .i64 p.to.p,.int .i64 p.at_,.str p.text]]
 (fun r o=>∃x,x=hear (cs.getD k default) b p∧r=.tup [.agg (Pk.row (x.2.getD .zero)),.bool x.2.isSome]∧o=[.arr 47 10 ((cs.set k x.1).map Conv.row)]):=by
 refine mP dg127 Tryz.ntmps127 ⟨_,_,_,rfl,rfl,rfl⟩ ?_
 have h1:=hp.at_
 have h2:=hp.len
 have h3:=hc.upGot
 have h4:=hc.downGot
 generalize hcc:cs.getD k default=c at *
 have g1:=c157 c.upGot p.at_ p.text (by omega) (by omega) (by omega)
 have g2:=c157 c.downGot p.at_ p.text (by omega) (by omega) (by omega)
 have hcc2:c=cs[k]:=by rw[←hcc];simp[List.getD,hk]
 have hset:∀x:Conv,(cs.set k x).map Conv.row=(cs.map Conv.row).set k (Conv.row x):=fun x=>List.map_set
 have hsame:cs.set k c=cs:=by rw[hcc2];exact List.set_getElem_self hk
 clear hcc2
 have fin:∀l mm (x:Conv×Option Pk),hear c b p=x→getL l 6=.pv 1006 0→getL l 7=.bool x.2.isSome→getH mm 1006=.var 70 (Pk.row (x.2.getD .zero))→getH mm 0=.arr 47 10 ((cs.set k x.1).map Conv.row) →
  retQ [.cell 6 7 true,.t 7] 1 (fun r o=>∃x,x=hear c b p∧r=.tup [.agg (Pk.row (x.2.getD .zero)),.bool x.2.isSome]∧o=[.arr 47 10 ((cs.set k x.1).map Conv.row)]) .ret ⟨getL l,getH mm⟩:=fun l mm x h1 h2 h3 h4 h5=>by
  refine retN (.tup [.agg (Pk.row (x.2.getD .zero)),.bool x.2.isSome]) [.arr 47 10 ((cs.set k x.1).map Conv.row)] [] ?_ ⟨x,h1.symm,rfl,rfl⟩ ?_ (by simp[argH,getN]) (by simp only[go_sem])
  ·simp only[go_sem,h2,h3,h4]
  ·simp only[go_sem,h5]
 have gs:∀R,((cs.map Conv.row).set k R).getD k []=R:=fun R=>by simp[List.getD,hk]
 simp only[ic127,go_sem]
 cases b<;>simp only[go_sem,getD_mp hk,hcc,E.ext_iff']
 all_goals
  with_reducible repeat' (first|refine br ?_ ?_<;>intro h e<;>(try simp only[e,go_sem,getD_mp hk,hcc,gs,E.ext_iff'])<;>clear e|rw[i64w (by omega)]|refine sd ?_<;>try simp only[go_sem,getD_mp hk,hcc,gs,E.ext_iff']|(first|refine cr (c69 ..) ?_|refine cr (g1 ..) ?_|refine cr (g2 ..) ?_)<;>try simp only[go_sem,getD_mp hk,hcc,gs,E.ext_iff']|fail)
 all_goals clear g1 g2
 all_goals clear gs hset hcc
 all_goals have hset:∀x:Conv,(cs.set k x).map Conv.row=(cs.map Conv.row).set k (Conv.row x):=fun x=>List.map_set
 all_goals first
  | (refine fin _ _ (c,none) (by simp[hear, *]) ?_ ?_ ?_ ?_<;>simp only[go_sem,Option.isSome_none,Option.getD_none,Pk.zero,E.zero,hsame];done)
  | (refine fin _ _ ({ c with downAck:=max c.downAck (min p.at_ c.down.length) },none) (by simp[hear, *]) ?_ ?_ ?_ ?_<;>simp only[go_sem,Option.isSome_none,Option.getD_none,Pk.zero,E.zero,hset];done)
  | (refine fin _ _ ({ c with upAck:=max c.upAck (min p.at_ c.up.length) },none) (by simp[hear, *]) ?_ ?_ ?_ ?_<;>simp only[go_sem,Option.isSome_none,Option.getD_none,Pk.zero,E.zero,hset];done)
  | (refine fin _ _ ({ c with upGot:=(behind c.upGot p.at_ p.text).1 },some ⟨2,p.to,p.frm,(behind c.upGot p.at_ p.text).1.length,[]⟩) (by simp[hear, *]) ?_ ?_ ?_ ?_<;>simp only[go_sem,Option.isSome_some,Option.getD_some,hset];done)
  | (refine fin _ _ ({ c with downGot:=(behind c.downGot p.at_ p.text).1 },some ⟨2,p.to,p.frm,(behind c.downGot p.at_ p.text).1.length,[]⟩) (by simp[hear, *]) ?_ ?_ ?_ ?_<;>simp only[go_sem,Option.isSome_some,Option.getD_some,hset];done)
def ic79:IC:=sR [oP 4 (.mv (.c i0))] (.seq (.drw [0,1,3,7,15,0,32,96,224,0,992,2016,4064,8191,16383] [(0,mV 5 0),(1,oP 6 (.nilc (.t 5))),(2,fD 7 1 6),(3,fD 8 0 7),(4,lD 9 1 8),(5,mV 10 0),(6,oP 11 (.nilc (.t 10))),(7,fD 12 0 11),(8,lD 13 1 12),(9,mV 14 1),(10,oP 15 (.iad 10 (.t 13) (.t 14))),(11,fD 16 0 15),(12,lA 17 2 16),(13,oP 18 (.call 125 [.t 9,.t 17])),(14,mV 4 18)]) .ret)
theorem dg79:Dg Tryz.prog 79 Tryz.f79 ic79 [(.t 4)]:=⟨Tryz.func79,by kernel_rfl,by kernel_rfl⟩
theorem c79 (w:M.World) (k:Nat) (hk:k<w.convs.length) (hm:w.door.map.length≤2000000):FnP Tryz.prog G 79 4 [.var 41 [.own 2 w.convs.length,.sl 3 (w.door.map.map Pair.row),.own 1 w.door.flows.length,.own 3 w.nets.length],.arr 181 8 (w.door.flows.map Flw.row),.arr 47 10 (w.convs.map Conv.row),.arr 70 7 (w.nets.map Pk.row)] [.pv 0 0,.int .i64 (k:Int)] (fun r o=>r=.int .i64 (portOf w.door.map (w.convs.getD k default).ins)∧o=[.var 41 [.own 2 w.convs.length,.sl 3 (w.door.map.map Pair.row),.own 1 w.door.flows.length,.own 3 w.nets.length],.arr 181 8 (w.door.flows.map Flw.row),.arr 47 10 (w.convs.map Conv.row),.arr 70 7 (w.nets.map Pk.row)]):=by
 refine mP dg79 Tryz.ntmps79 ⟨_,_,rfl,rfl⟩ ?_
 generalize hc:w.convs.getD k default=c at *
 have f1:=c125 w.door.map c.ins.a c.ins.p hm
 simp only[ic79,go_sem]
 with_reducible repeat' (first|refine br ?_ ?_<;>intro h e<;>(try simp only[e,go_sem,getD_mp hk,hc])<;>clear e|rw[i64w (by omega)]|refine sd ?_<;>try simp only[go_sem,getD_mp hk,hc]|(first|refine cr (f1 ..) ?_)<;>try simp only[go_sem,getD_mp hk,hc]|fail)
 refine retN _ _ [] ?_ ⟨rfl,rfl⟩ ?_ (by simp[argH,getN]) (by simp only[go_sem])
 ·simp only[go_sem]
 ·simp only[go_sem]
def carryA (x:M.World×Option Pk) (r:V) (o:List Hs):Prop:=∃q,r=.tup [.agg (Pk.row q),.bool x.2.isSome]∧(∀q',x.2=some q'→q=q')∧o=[.var 41 [.own 2 x.1.convs.length,.sl 3 (x.1.door.map.map Pair.row),.own 1 x.1.door.flows.length,.own 3 x.1.nets.length],.arr 181 8 (x.1.door.flows.map Flw.row),.arr 47 10 (x.1.convs.map Conv.row),.arr 70 7 (x.1.nets.map Pk.row)]
theorem carryRet {x:M.World×Option Pk} {w:M.World} {o:Option Pk} {l:List (Nat×V)} {mm:List (Nat×Hs)} (q:Pk) (n1 n2 n3:Nat) (hx:x=(w,o)) (hq:∀q',o=some q'→q=q') (h4:getL l 4=.pv 1004 0) (h5:getL l 5=.bool o.isSome) (m4:getH mm 1004=.var 70 (Pk.row q))
 (m0:getH mm 0=.var 41 [.own n2 w.convs.length,.sl 3 (w.door.map.map Pair.row),.own n1 w.door.flows.length,.own n3 w.nets.length])
 (m1:getH mm n1=.arr 181 8 (w.door.flows.map Flw.row)) (m2:getH mm n2=.arr 47 10 (w.convs.map Conv.row)) (m3:getH mm n3=.arr 70 7 (w.nets.map Pk.row))
 (hne:[0,n1,n2,n3].Nodup):retQ [.cell 4 7 true,.t 5] 1 (carryA x) .ret ⟨getL l,getH mm⟩:=by
 subst hx
 refine retN (.tup [.agg (Pk.row q),.bool o.isSome]) [.var 41 [.own 2 w.convs.length,.sl 3 (w.door.map.map Pair.row),.own 1 w.door.flows.length,.own 3 w.nets.length],.arr 181 8 (w.door.flows.map Flw.row),.arr 47 10 (w.convs.map Conv.row),.arr 70 7 (w.nets.map Pk.row)] [(1,n1),(2,n2),(3,n3)] ?_ ⟨q,rfl,hq,rfl⟩ ?_ (by simpa[argH,getN] using hne) (by simp only[go_sem])
 ·simp only[go_sem,h4,h5,m4]
 ·simp only[go_sem,m0,m1,m2,m3]
def ic80:IC:=sR [oP 3 (.box 70 (.t 1)),oP 4 (.alloc 70 [i0,i0,i0,i0,i0,i0,s0]),oP 5 (.mv (.c (.bool false)))] (.seq (sR [fD 9 3 3,lA 10 2 9,oP 11 (.call 69 [.t 10]),mV 12 11,⟨some 13,some (12,false),.fad 1 (.t 3)⟩,⟨some 14,some (12,false),.ld 2 true (.t 13)⟩,⟨some 15,some (12,false),.call 64 [.t 14]⟩,oP 16 (.pick (.t 12) (.c (.bool true)) (.t 15))] (.cond (.t 16) (.seq (.drw [0,1,3,0,15,31,31,127,255] [(0,mV 17 0),(1,oP 18 (.nilc (.t 17))),(2,fD 19 1 18),(3,lA 20 7 3),(4,oP 21 (.call 126 [.t 19,.t 20])),(5,eX 22 21 0),(6,eX 23 21 1),(7,nP (.sto 7 (.t 4) (.t 22))),(8,mV 5 23)]) .ret) .skip)) (.seq (sR [mV 24 0,oP 25 (.nilc (.t 24)),fD 26 0 25,lD 27 1 26,oP 28 (.len (.t 27)),oP 29 (.mv (.c i0))] (.block 0 (.loop (sR [bN 30 .lss 29 28] (.seq (.cond (.t 30) .skip (.exit 0)) (.seq (.block 1 (sR [mV 31 29,mV 6 31] (sR [mV 32 0,oP 33 (.nilc (.t 32)),fD 34 0 33,lD 35 1 34,mV 36 6,oP 37 (.iad 10 (.t 35) (.t 36)),mV 7 37] (.seq (.drw [0,1,0,4,12,28,63,127,255,511,255,1279,3327,7423,16383,32767,65535] [(0,fD 38 3 3),(1,lA 39 2 38),(2,mV 40 7),(3,oP 41 (.nilc (.t 40))),(4,fD 42 0 41),(5,lA 43 2 42),(6,oP 44 (.eqs false [.i,.i] (.t 39) (.t 43))),(7,mV 45 44),(8,⟨some 46,some (45,true),.fad 1 (.t 3)⟩),(9,⟨some 47,some (45,true),.ld 2 true (.t 46)⟩),(10,⟨some 48,some (45,true),.mv (.t 7)⟩),(11,⟨some 49,some (45,true),.nilc (.t 48)⟩),(12,⟨some 50,some (45,true),.fad 2 (.t 49)⟩),(13,⟨some 51,some (45,true),.ld 2 true (.t 50)⟩),(14,⟨some 52,some (45,true),.eqs false [.i,.i] (.t 47) (.t 51)⟩),(15,oP 53 (.pick (.t 45) (.t 52) (.c (.bool false)))),(16,mV 8 53)]) (.seq (.drw [0,1,3,7,3,19,51,115,255,511,1023,2047,4095,8191,16383,32767,65535,131071,32767,32767,819199,2097151,4194303,8388607] [(0,mV 54 8),(1,mV 55 54),(2,⟨some 56,some (55,false),.fad 3 (.t 3)⟩),(3,⟨some 57,some (55,false),.ld 2 true (.t 56)⟩),(4,⟨some 58,some (55,false),.mv (.t 7)⟩),(5,⟨some 59,some (55,false),.nilc (.t 58)⟩),(6,⟨some 60,some (55,false),.fad 2 (.t 59)⟩),(7,⟨some 61,some (55,false),.ld 2 true (.t 60)⟩),(8,⟨some 62,some (55,false),.eqs false [.i,.i] (.t 57) (.t 61)⟩),(9,⟨some 63,some (55,false),.mv (.t 62)⟩),(10,⟨some 64,some (63,true),.fad 1 (.t 3)⟩),(11,⟨some 65,some (63,true),.ld 2 true (.t 64)⟩),(12,⟨some 66,some (63,true),.call 69 [.t 65]⟩),(13,⟨some 67,some (55,false),.pick (.t 63) (.t 66) (.c (.bool false))⟩),(14,⟨some 68,some (55,false),.mv (.t 67)⟩),(15,⟨some 69,some (68,true),.fad 1 (.t 3)⟩),(16,⟨some 70,some (68,true),.fad 1 (.t 69)⟩),(17,⟨some 71,some (68,true),.ld 1 false (.t 70)⟩),(18,⟨some 72,some (68,true),.mv (.t 0)⟩),(19,⟨some 73,some (68,true),.mv (.t 6)⟩),(20,⟨some 74,some (68,true),.call 79 [.t 72,.t 73]⟩),(21,⟨some 75,some (68,true),.bin .eql (.t 71) (.t 74)⟩),(22,⟨some 76,some (55,false),.pick (.t 68) (.t 75) (.c (.bool false))⟩),(23,oP 77 (.pick (.t 55) (.c (.bool true)) (.t 76)))]) (.cond (.t 77) (sR [mV 78 7,mV 79 8,lA 80 7 3,oP 81 (.call 127 [.t 78,.t 79,.t 80]),eX 82 81 0,eX 83 81 1,nP (.sto 7 (.t 4) (.t 82)),mV 5 83] .ret) .skip)))))) (.reg [oP 84 (.bin .add (.t 29) (.c (.int .i64 1))),mV 29 84]))))))) (sR [oP 85 (.build [i0,i0,i0,i0,i0,i0,s0] []),nP (.sto 7 (.t 4) (.t 85)),oP 5 (.mv (.c (.bool false)))] .ret)))
theorem dg80:Dg Tryz.prog 80 Tryz.f80 ic80 [(.cell 4 7 true),(.t 5)]:=⟨Tryz.func80,by kernel_rfl,by kernel_rfl⟩
set_option maxHeartbeats 1000000 in
theorem x80 {X:List (E×E)} (w:M.World) (p:Pk) (hw:WX X w) (hp:PkP p):FnP Tryz.prog G 80 1 [.var 41 [.own 2 w.convs.length,.sl 3 (w.door.map.map Pair.row),.own 1 w.door.flows.length,.own 3 w.nets.length],.arr 181 8 (w.door.flows.map Flw.row),.arr 47 10 (w.convs.map Conv.row),.arr 70 7 (w.nets.map Pk.row)] [.pv 0 0,.agg [.int .i64 p.kind,.int .i64 p.frm.a,.int .i64 p.frm.p,.int .i64 p.to.a,.int .i64 p.to.p,.int .i64 p.at_,.str p.text]] (carryA (carry w p)):=by
 refine mP dg80 Tryz.ntmps80 ⟨_,_,(carry w p).2.getD .zero,rfl,fun q' h=>by rw[h];rfl,rfl⟩ ?_
 have hml:=(mapOk_ports (doorOk_iff.1 hw.door).1).2
 have hcl:=hw.cl
 have hdoor:(p.to.door=true∨p.frm.inside=true)→carry w p=({ w with door:=(dPass w.door p).1 },(dPass w.door p).2):=fun h=>carry_door (by simpa using h)
 simp only[ic80,go_sem]
 with_reducible repeat' (first|refine br ?_ ?_<;>intro h e<;>(try simp only[e,go_sem])<;>clear e|rw[i64w (by omega)]|refine sd ?_<;>try simp only[go_sem]|(first|refine cr (c69 ..) ?_|refine cr (c64 ..) ?_)<;>try simp only[go_sem]|fail)
 ·refine callN (w126 w w.door p hw.door hp) [0,1,2,3] [] true 21 4 (by simp only[go_sem];first|done|simp) (by simp only[go_sem];first|done|simp) (by simp) (by simp) (by simp) ?_ ?_ ?_
  ·rintro res out ⟨q,rfl,hq,rfl⟩
   exact⟨by simp,by simp,.inl rfl,fun i hi=>by obtain rfl:i=0:=(by omega);simp[chH,stepOk]⟩
  ·intro i hi
   rcases(show i=0∨i=1∨i=2∨i=3 by omega) with rfl|rfl|rfl|rfl<;>simp only[go_sem]
  rintro res out ⟨q,rfl,hq,rfl⟩
  simp only[go_sem]
  with_reducible repeat' (first|refine br ?_ ?_<;>intro h e<;>(try simp only[e,go_sem])<;>clear e|rw[i64w (by omega)]|refine sd ?_<;>try simp only[go_sem]|fail)
  refine carryRet (w:={ w with door:=(dPass w.door p).1 }) (o:=(dPass w.door p).2) q 102101 102102 102103 (hdoor (.inl (by assumption))) hq ?_ ?_ ?_ ?_ ?_ ?_ ?_ (by decide)<;>simp only[go_sem]
 ·refine callN (w126 w w.door p hw.door hp) [0,1,2,3] [] true 21 4 (by simp only[go_sem];first|done|simp) (by simp only[go_sem];first|done|simp) (by simp) (by simp) (by simp) ?_ ?_ ?_
  ·rintro res out ⟨q,rfl,hq,rfl⟩
   exact⟨by simp,by simp,.inl rfl,fun i hi=>by obtain rfl:i=0:=(by omega);simp[chH,stepOk]⟩
  ·intro i hi
   rcases(show i=0∨i=1∨i=2∨i=3 by omega) with rfl|rfl|rfl|rfl<;>simp only[go_sem]
  rintro res out ⟨q,rfl,hq,rfl⟩
  simp only[go_sem]
  with_reducible repeat' (first|refine br ?_ ?_<;>intro h e<;>(try simp only[e,go_sem])<;>clear e|rw[i64w (by omega)]|refine sd ?_<;>try simp only[go_sem]|fail)
  refine carryRet (w:={ w with door:=(dPass w.door p).1 }) (o:=(dPass w.door p).2) q 102101 102102 102103 (hdoor (.inr (by assumption))) hq ?_ ?_ ?_ ?_ ?_ ?_ ?_ (by decide)<;>simp only[go_sem]
 rw[carry_host (by simp[*])]
 clear hdoor
 refine loopN (fun k:Nat=>⟨getL [(0,.pv 0 0),(3,.pv 1003 0),(4,.pv 1004 0),(28,.int .i64 w.convs.length),(29,.int .i64 (k:Int))],getH [(0,.var 41 [.own 2 w.convs.length,.sl 3 (w.door.map.map Pair.row),.own 1 w.door.flows.length,.own 3 w.nets.length]),(1,.arr 181 8 (w.door.flows.map Flw.row)),(2,.arr 47 10 (w.convs.map Conv.row)),(3,.arr 70 7 (w.nets.map Pk.row)),(1003,.var 70 [.int .i64 p.kind,.int .i64 p.frm.a,.int .i64 p.frm.p,.int .i64 p.to.a,.int .i64 p.to.p,.int .i64 p.at_,.str p.text]),(1004,.var 70 [.int .i64 0,.int .i64 0,.int .i64 0,.int .i64 0,.int .i64 0,.int .i64 0,.str []])]⟩)
  (fun k=>w.convs.length - k) (fun k=>k≤w.convs.length∧(w.convs.take k).any (matchC w p)=false) 0 (leQ []) ⟨Nat.zero_le _,by simp⟩ ?_
 intro k ⟨hk,ha⟩
 simp only[go_sem]
 by_cases h:(k:Int)<w.convs.length
 ·have hil:k<w.convs.length:=by omega
  have hg:w.convs.getD k default=w.convs[k]:=by simp[List.getD,hil]
  have hat:=hostR_at (w:=w) (p:=p) hil ha
  have hstep:=any_step hil ha
  have hB:=convOk_B (hw.cv _ (List.getElem_mem hil))
  rw[matchC_e] at hat hstep
  have fp:=c79 w k hil (by omega)
  have ft:=c127 w.convs k true p hil (by rw[hg];exact hB) hp
  have ff:=c127 w.convs k false p hil (by rw[hg];exact hB) hp
  rw[hg] at fp ft ff
  simp only[eq_true h,go_sem]
  generalize hc:w.convs[k]=c at *
  generalize hinw:(decide (p.to=c.ins)&&decide (p.frm=c.out))=inw at *
  with_reducible repeat' (first|refine br ?_ ?_<;>intro h e<;>(try simp only[e,go_sem,getD_mp hil,hg,E.ext_iff'])<;>clear e|rw[i64w (by omega)]|refine sd ?_<;>try simp only[go_sem,getD_mp hil,hg,E.ext_iff']|(first|refine cr (c69 ..) ?_)<;>try simp only[go_sem,getD_mp hil,hg,E.ext_iff']|fail)
  all_goals try(
   refine callN fp [0,1,2,3] [] true 74 4 (by simp only[go_sem];first|done|simp) (by simp only[go_sem];first|done|simp) (by simp) (by simp) (by simp) ?_ ?_ ?_
   ·rintro _ _ ⟨rfl,rfl⟩
    exact⟨by simp,by simp,.inl rfl,fun i hi=>by rcases(show i=0∨i=1∨i=2∨i=3 by omega) with rfl|rfl|rfl|rfl<;>simp[chH,stepOk]⟩
   ·intro i hi
    rcases(show i=0∨i=1∨i=2∨i=3 by omega) with rfl|rfl|rfl|rfl<;>simp only[go_sem]
   rintro _ _ ⟨rfl,rfl⟩
   simp only[go_sem]
   with_reducible repeat' (first|refine br ?_ ?_<;>intro h e<;>(try simp only[e,go_sem,getD_mp hil,hg,E.ext_iff'])<;>clear e|rw[i64w (by omega)]|refine sd ?_<;>try simp only[go_sem,getD_mp hil,hg,E.ext_iff']|(first|refine cr (c69 ..) ?_)<;>try simp only[go_sem,getD_mp hil,hg,E.ext_iff']|fail)
   )
  all_goals clear fp
  all_goals first
   | (refine⟨k+1,by omega,⟨by omega,hstep ?_⟩,(leQ [])⟩
      clear ft ff
      simp_all;done)
   | (refine callN ft [2] [] true 81 1 (by simp only[go_sem];first|done|simp) (by simp only[go_sem];first|done|simp) (by simp) (by simp) (by simp) ?_ ?_ ?_
      ·rintro _ _ ⟨x,rfl,rfl,rfl⟩
       exact⟨by simp,by simp,.inl rfl,fun i hi=>by obtain rfl:i=0:=(by omega);simp[chH,stepOk]⟩
      ·intro i hi;obtain rfl:i=0:=(by omega);simp only[go_sem]
      rintro _ _ ⟨x,hx,rfl,rfl⟩
      clear ft ff
      simp only[go_sem]
      with_reducible repeat' (first|refine br ?_ ?_<;>intro h e<;>(try simp only[e,go_sem])<;>clear e|rw[i64w (by omega)]|refine sd ?_<;>try simp only[go_sem]|fail)
      have hi:inw=true:=by clear hx;simp_all
      have hh:=hat (by clear hx;simp_all)
      rw[hi,←hx] at hh
      refine carryRet (w:={ w with convs:=w.convs.set k x.1 }) (o:=x.2) (x.2.getD .zero) 1 2 3 hh (fun q' h=>by rw[h];rfl) ?_ ?_ ?_ ?_ ?_ ?_ ?_ (by decide)
      all_goals simp only[go_sem,List.length_set]
      done)
   | (refine callN ff [2] [] true 81 1 (by simp only[go_sem];first|done|simp) (by simp only[go_sem];first|done|simp) (by simp) (by simp) (by simp) ?_ ?_ ?_
      ·rintro _ _ ⟨x,rfl,rfl,rfl⟩
       exact⟨by simp,by simp,.inl rfl,fun i hi=>by obtain rfl:i=0:=(by omega);simp[chH,stepOk]⟩
      ·intro i hi;obtain rfl:i=0:=(by omega);simp only[go_sem]
      rintro _ _ ⟨x,hx,rfl,rfl⟩
      clear ft ff
      simp only[go_sem]
      with_reducible repeat' (first|refine br ?_ ?_<;>intro h e<;>(try simp only[e,go_sem])<;>clear e|rw[i64w (by omega)]|refine sd ?_<;>try simp only[go_sem]|fail)
      have hi:inw=false:=by clear hx;simp_all
      have hh:=hat (by clear hx;simp_all)
      rw[hi,←hx] at hh
      refine carryRet (w:={ w with convs:=w.convs.set k x.1 }) (o:=x.2) (x.2.getD .zero) 1 2 3 hh (fun q' h=>by rw[h];rfl) ?_ ?_ ?_ ?_ ?_ ?_ ?_ (by decide)
      all_goals simp only[go_sem,List.length_set]
      done)
 ·simp only[eq_false h,go_sem]
  have:k=w.convs.length:=by omega
  subst this
  rw[List.take_length] at ha
  rw[hostR_no ha]
  refine carryRet .zero 1 2 3 rfl (fun q' h=>by cases h) ?_ ?_ ?_ ?_ ?_ ?_ ?_ (by decide)<;>simp only[go_sem,Option.isSome_none,Pk.zero,E.zero]
theorem c80 (w:M.World) (p:Pk) (hw:WI w) (hp:PkP p):FnP Tryz.prog G 80 1 [.var 41 [.own 2 w.convs.length,.sl 3 (w.door.map.map Pair.row),.own 1 w.door.flows.length,.own 3 w.nets.length],.arr 181 8 (w.door.flows.map Flw.row),.arr 47 10 (w.convs.map Conv.row),.arr 70 7 (w.nets.map Pk.row)] [.pv 0 0,.agg [.int .i64 p.kind,.int .i64 p.frm.a,.int .i64 p.frm.p,.int .i64 p.to.a,.int .i64 p.to.p,.int .i64 p.at_,.str p.text]] (carryA (carry w p)) :=
 x80 w p hw.x hp
def ic81:IC:=sR [oP 4 (.alloc 70 [i0,i0,i0,i0,i0,i0,s0])] (sR [mV 6 0,oP 7 (.nilc (.t 6)),fD 8 3 7,lD 9 1 8,mV 10 1,oP 11 (.iad 7 (.t 9) (.t 10)),lA 12 7 11,oP 5 (.alloc 70 [i0,i0,i0,i0,i0,i0,s0]),nP (.sto 7 (.t 5) (.t 12))] (sR [mV 13 0,mV 14 0,oP 15 (.nilc (.t 14)),fD 16 3 15,lD 17 1 16,mV 18 1,mV 19 1,oP 20 (.bin .add (.t 19) (.c (.int .i64 1))),oP 21 (.call 128 [.t 17,.t 18,.t 20]),oP 22 (.nilc (.t 13)),fD 23 3 22,nP (.sto 1 (.t 23) (.t 21))] (sR [lA 24 7 5,nP (.sto 7 (.t 4) (.t 24))] .ret)))
theorem dg81:Dg Tryz.prog 81 Tryz.f81 ic81 [(.cell 4 7 true)]:=⟨Tryz.func81,by kernel_rfl,by kernel_rfl⟩
theorem c81 (w:M.World) (k:Nat) (hk:k<w.nets.length) (hn:w.nets.length≤2000000):FnP Tryz.prog G 81 1 [.var 41 [.own 2 w.convs.length,.sl 3 (w.door.map.map Pair.row),.own 1 w.door.flows.length,.own 3 w.nets.length],.arr 181 8 (w.door.flows.map Flw.row),.arr 47 10 (w.convs.map Conv.row),.arr 70 7 (w.nets.map Pk.row)] [.pv 0 0,.int .i64 (k:Int)] (fun r o=>r=.agg (Pk.row (w.nets.getD k default))∧∃v,v={ w with nets:=w.nets.eraseIdx k }∧o=[.var 41 [.own 2 v.convs.length,.sl 3 (v.door.map.map Pair.row),.own 1 v.door.flows.length,.own 3 v.nets.length],.arr 181 8 (v.door.flows.map Flw.row),.arr 47 10 (v.convs.map Conv.row),.arr 70 7 (v.nets.map Pk.row)]):=by
 refine mP dg81 Tryz.ntmps81 ⟨_,_,rfl,_,rfl,rfl⟩ ?_
 have hlen:(w.nets.eraseIdx k).length=w.nets.length - 1:=by rw[List.length_eraseIdx,if_pos hk]
 generalize hp:w.nets.getD k default=p at *
 simp only[ic81,go_sem]
 with_reducible repeat' (first|rw[i64w (by omega)];try simp only[go_sem,getD_mp hk,hp]|refine br ?_ ?_<;>intro h e<;>(try simp only[e,go_sem,getD_mp hk,hp])<;>clear e|refine sd ?_<;>try simp only[go_sem,getD_mp hk,hp]|fail)
 refine callU (o128 w.nets k hk) [3] [] 21 1 (by simp only[go_sem];first|done|simp) (by simp only[go_sem];first|done|simp) (by simp) (by simp) (by rintro _ _ ⟨rfl,rfl⟩;simp) (by intro i hi;obtain rfl:i=0:=(by omega);simp only[go_sem]) ?_
 rintro _ _ ⟨rfl,rfl⟩
 simp only[go_sem]
 with_reducible repeat' (first|refine br ?_ ?_<;>intro h e<;>(try simp only[e,go_sem])<;>clear e|rw[i64w (by omega)]|refine sd ?_<;>try simp only[go_sem]|fail)
 refine retN (.agg (Pk.row p)) [.var 41 [.own 2 ({ w with nets:=w.nets.eraseIdx k }:M.World).convs.length,.sl 3 (({ w with nets:=w.nets.eraseIdx k }:M.World).door.map.map Pair.row),.own 1 ({ w with nets:=w.nets.eraseIdx k }:M.World).door.flows.length,.own 3 ({ w with nets:=w.nets.eraseIdx k }:M.World).nets.length],.arr 181 8 (({ w with nets:=w.nets.eraseIdx k }:M.World).door.flows.map Flw.row),.arr 47 10 (({ w with nets:=w.nets.eraseIdx k }:M.World).convs.map Conv.row),.arr 70 7 (({ w with nets:=w.nets.eraseIdx k }:M.World).nets.map Pk.row)] [(3,102100)] ?_ ⟨rfl,_,rfl,rfl⟩ ?_ (by simp[argH,getN]) (by simp only[go_sem])
 ·simp only[go_sem]
 ·simp only[go_sem,hlen]
def strC (p:Pk) (c:Conv):Bool:=decide (c.out=p.frm)
def ic82:IC:=sR [oP 2 (.box 47 (.t 0)),oP 3 (.mv (.c (.bool false)))] (sR [fD 4 2 2,lA 5 2 4,fD 6 4 1,fD 7 1 6,lA 8 2 7,oP 9 (.eqs false [.i,.i] (.t 5) (.t 8)),mV 3 9] .ret)
theorem dg82:Dg Tryz.prog 82 Tryz.f82 ic82 [(.t 3)]:=⟨Tryz.func82,by kernel_rfl,by kernel_rfl⟩
theorem c82 (c:Conv) (e:Ev):FnR Tryz.prog G 82 [.agg [.int .i64 c.ins.a,.int .i64 c.ins.p,.int .i64 c.out.a,.int .i64 c.out.p,.str c.up,.str c.down,.int .i64 c.upAck,.int .i64 c.downAck,.str c.upGot,.str c.downGot],.iptr [.int .i64 e.kind,.int .i64 e.a,.int .i64 e.b,.int .i64 e.c,.int .i64 e.pkt.kind,.int .i64 e.pkt.frm.a,.int .i64 e.pkt.frm.p,.int .i64 e.pkt.to.a,.int .i64 e.pkt.to.p,.int .i64 e.pkt.at_,.str e.pkt.text] 0] (.bool (strC e.pkt c)):=by
 refine mF dg82 Tryz.ntmps82 ?_
 simp only[ic82,go_sem,E.ext_iff']
 all_goals simp_all[strC]
theorem c117D (l:List Conv) (e:Ev) (hl:l.length≤2000000):FnR Tryz.prog G 117 [.sl 10 (l.map Conv.row),.fn 82 [.iptr [.int .i64 e.kind,.int .i64 e.a,.int .i64 e.b,.int .i64 e.c,.int .i64 e.pkt.kind,.int .i64 e.pkt.frm.a,.int .i64 e.pkt.frm.p,.int .i64 e.pkt.to.a,.int .i64 e.pkt.to.p,.int .i64 e.pkt.at_,.str e.pkt.text] 0]] (.int .i64 (ixI (l.findIdx? (strC e.pkt)))):=by
 refine mF dg117 Tryz.ntmps117 ?_
 simp only[ic117,go_sem]
 refine loopN (fun k:Nat=>⟨getL [(0,.sl 10 (l.map Conv.row)),(1,.fn 82 [.iptr [.int .i64 e.kind,.int .i64 e.a,.int .i64 e.b,.int .i64 e.c,.int .i64 e.pkt.kind,.int .i64 e.pkt.frm.a,.int .i64 e.pkt.frm.p,.int .i64 e.pkt.to.a,.int .i64 e.pkt.to.p,.int .i64 e.pkt.at_,.str e.pkt.text] 0]),(7,.int .i64 l.length),(8,.int .i64 (k:Int))],getH []⟩) (fun k=>l.length - k)
  (fun k=>k≤l.length∧(l.take k).any (strC e.pkt)=false) 0 (leQ []) ⟨Nat.zero_le _,by simp⟩ ?_
 intro k ⟨hk,ha⟩
 simp only[go_sem]
 by_cases h:(k:Int)<l.length
 ·have hil:k<l.length:=by omega
  have hg:l.getD k default=l[k]:=by simp[List.getD,hil]
  have hy:=findIdx_yes hil ha
  have hs:=any_step hil ha
  simp only[eq_true h,go_sem]
  refine effG (by omega) ?_
  simp only[hg,go_sem]
  refine callR (c82 l[k] e) rfl rfl ?_
  simp only[go_sem]
  with_reducible repeat' (first|refine br ?_ ?_<;>intro h e<;>(try simp only[e,go_sem])<;>clear e|rw[i64w (by omega)]|refine sd ?_<;>try simp only[go_sem]|fail)
  ·rw[hy (by assumption)];rfl
  ·exact⟨k+1,by omega,⟨by omega,hs (by assumption)⟩,(leQ [])⟩
 ·simp only[eq_false h,go_sem]
  have:k=l.length:=by omega
  subst this
  rw[List.take_length] at ha
  rw[findIdx_no ha];rfl
theorem c71D (l:List Conv) (e:Ev) (hl:l.length≤2000000):FnR Tryz.prog G 71 [.sl 10 (l.map Conv.row),.fn 82 [.iptr [.int .i64 e.kind,.int .i64 e.a,.int .i64 e.b,.int .i64 e.c,.int .i64 e.pkt.kind,.int .i64 e.pkt.frm.a,.int .i64 e.pkt.frm.p,.int .i64 e.pkt.to.a,.int .i64 e.pkt.to.p,.int .i64 e.pkt.at_,.str e.pkt.text] 0]] (.bool (l.any (strC e.pkt))):=by
 refine mF dg71 Tryz.ntmps71 ?_
 simp only[ic71,go_sem]
 refine callR (c117D l e hl) rfl rfl ?_
 simp only[go_sem,ixI_any]
theorem stranger_e (w:M.World) (p:Pk):stranger w p=(pkOk p&&p.inward&&!w.convs.any (strC p)):=rfl
def ic45:IC:=sR [oP 3 (.box 83 (.t 1))] (.seq (.drw [0,1,0,4,12,28,60,124,255,0,512,0,2048,6144,14336,30720,63488,131071,262143,524287] [(0,fD 7 1 3),(1,lD 8 1 7),(2,mV 9 0),(3,oP 10 (.nilc (.t 9))),(4,fD 11 0 10),(5,lD 12 1 11),(6,oP 13 (.len (.t 12))),(7,oP 14 (.bin .sub (.t 13) (.c (.int .i64 1)))),(8,oP 15 (.call 76 [.t 8,.c i0,.t 14])),(9,fD 16 1 3),(10,lD 17 1 16),(11,mV 18 0),(12,oP 19 (.nilc (.t 18))),(13,fD 20 3 19),(14,lD 21 1 20),(15,oP 22 (.len (.t 21))),(16,oP 23 (.bin .sub (.t 22) (.c (.int .i64 1)))),(17,oP 24 (.call 76 [.t 17,.c i0,.t 23])),(18,mV 4 15),(19,mV 5 24)]) (.block 0 (sR [fD 26 0 3,lD 27 1 26,oP 28 (.bin .eql (.t 27) (.c (.int .i64 1))),mV 29 28,⟨some 30,some (29,true),.mv (.t 4)⟩,oP 31 (.pick (.t 29) (.t 30) (.c (.bool false))),mV 25 31] (.cond (.t 25) (.drw [0,0,2,6,14,0,32,126,254,0,512,0,2048,8190,16382,16382,65535] [(0,mV 32 0),(1,mV 33 0),(2,oP 34 (.nilc (.t 33))),(3,fD 35 0 34),(4,lD 36 1 35),(5,fD 37 1 3),(6,lD 38 1 37),(7,oP 39 (.iad 10 (.t 36) (.t 38))),(8,lA 40 10 39),(9,fD 41 2 3),(10,lD 42 1 41),(11,fD 43 3 3),(12,lD 44 1 43),(13,oP 45 (.call 78 [.t 40,.c (.bool true),.c i0,.t 42,.t 44])),(14,eX 46 45 0),(15,eX 47 45 1),(16,oP 48 (.call 77 [.t 32,.t 46,.t 47]))]) (sR [fD 50 0 3,lD 51 1 50,oP 52 (.bin .eql (.t 51) (.c (.int .i64 2))),mV 53 52,⟨some 54,some (53,true),.mv (.t 4)⟩,oP 55 (.pick (.t 53) (.t 54) (.c (.bool false))),mV 49 55] (.cond (.t 49) (.drw [0,0,2,6,14,0,32,126,254,0,0,1024,3584,0,8192,0,32768,131070,262142,262142,1048575] [(0,mV 56 0),(1,mV 57 0),(2,oP 58 (.nilc (.t 57))),(3,fD 59 0 58),(4,lD 60 1 59),(5,fD 61 1 3),(6,lD 62 1 61),(7,oP 63 (.iad 10 (.t 60) (.t 62))),(8,lA 64 10 63),(9,mV 65 0),(10,fD 66 1 3),(11,lD 67 1 66),(12,oP 68 (.call 79 [.t 65,.t 67])),(13,fD 69 2 3),(14,lD 70 1 69),(15,fD 71 3 3),(16,lD 72 1 71),(17,oP 73 (.call 78 [.t 64,.c (.bool false),.t 68,.t 70,.t 72])),(18,eX 74 73 0),(19,eX 75 73 1),(20,oP 76 (.call 77 [.t 56,.t 74,.t 75]))]) (sR [fD 78 0 3,lD 79 1 78,oP 80 (.bin .eql (.t 79) (.c (.int .i64 3))),mV 81 80,⟨some 82,some (81,true),.mv (.t 5)⟩,oP 83 (.pick (.t 81) (.t 82) (.c (.bool false))),mV 77 83] (.cond (.t 77) (.reg [mV 84 0,mV 85 0,mV 86 0,fD 87 1 3,lD 88 1 87,oP 89 (.call 81 [.t 86,.t 88]),oP 90 (.call 80 [.t 85,.t 89]),eX 91 90 0,eX 92 90 1,oP 93 (.call 77 [.t 84,.t 91,.t 92])]) (sR [fD 95 0 3,lD 96 1 95,oP 97 (.bin .eql (.t 96) (.c (.int .i64 4))),mV 98 97,⟨some 99,some (98,true),.mv (.t 5)⟩,oP 100 (.pick (.t 98) (.t 99) (.c (.bool false))),mV 94 100] (.cond (.t 94) (.reg [mV 101 0,fD 102 1 3,lD 103 1 102,oP 104 (.call 81 [.t 101,.t 103])]) (sR [fD 106 0 3,lD 107 1 106,oP 108 (.bin .eql (.t 107) (.c (.int .i64 5))),mV 109 108,⟨some 110,some (109,true),.mv (.t 5)⟩,oP 111 (.pick (.t 109) (.t 110) (.c (.bool false))),mV 105 111] (.cond (.t 105) (.drw [0,0,2,6,14,0,32,126,254,511] [(0,mV 112 0),(1,mV 113 0),(2,oP 114 (.nilc (.t 113))),(3,fD 115 3 114),(4,lD 116 1 115),(5,fD 117 1 3),(6,lD 118 1 117),(7,oP 119 (.iad 7 (.t 116) (.t 118))),(8,lA 120 7 119),(9,oP 121 (.call 77 [.t 112,.t 120,.c (.bool true)]))]) (sR [fD 123 0 3,lD 124 1 123,oP 125 (.bin .eql (.t 124) (.c (.int .i64 6))),mV 122 125] (.cond (.t 122) (sR [mV 126 0,oP 127 (.nilc (.t 126)),fD 128 0 127,lD 129 1 128,oP 130 (.mkf 82 [.t 3]),oP 131 (.call 71 [.t 129,.t 130]),oP 132 (.un .not (.t 131)),mV 6 132] (.drw [0,0,2,0,8,24,56,120,248,504,1016,2040,4088,8184,16383] [(0,mV 133 0),(1,fD 134 4 3),(2,lA 135 7 134),(3,fD 136 4 3),(4,lA 137 7 136),(5,oP 138 (.call 83 [.t 137])),(6,mV 139 138),(7,⟨some 140,some (139,true),.fad 4 (.t 3)⟩),(8,⟨some 141,some (139,true),.ld 7 true (.t 140)⟩),(9,⟨some 142,some (139,true),.call 84 [.t 141]⟩),(10,oP 143 (.pick (.t 139) (.t 142) (.c (.bool false)))),(11,mV 144 143),(12,⟨some 145,some (144,true),.mv (.t 6)⟩),(13,oP 146 (.pick (.t 144) (.t 145) (.c (.bool false)))),(14,oP 147 (.call 77 [.t 133,.t 135,.t 146]))])) .skip))))))))))))))
theorem dg45:Dg Tryz.prog 45 Tryz.f45 ic45 []:=⟨Tryz.func45,by kernel_rfl,by kernel_rfl⟩
set_option maxHeartbeats 1000000 in
theorem x45 {X:List (E×E)} (w:M.World) (e:Ev) (hw:WX X w) (ht:e.pkt.text.length≤2000000):FnP Tryz.prog G 45 1 [.var 41 [.own 2 w.convs.length,.sl 3 (w.door.map.map Pair.row),.own 1 w.door.flows.length,.own 3 w.nets.length],.arr 181 8 (w.door.flows.map Flw.row),.arr 47 10 (w.convs.map Conv.row),.arr 70 7 (w.nets.map Pk.row)] [.pv 0 0,.agg [.int .i64 e.kind,.int .i64 e.a,.int .i64 e.b,.int .i64 e.c,.int .i64 e.pkt.kind,.int .i64 e.pkt.frm.a,.int .i64 e.pkt.frm.p,.int .i64 e.pkt.to.a,.int .i64 e.pkt.to.p,.int .i64 e.pkt.at_,.str e.pkt.text]] (fun r o=>r=.tup []∧∃v,v=wDo w e∧o=[.var 41 [.own 2 v.convs.length,.sl 3 (v.door.map.map Pair.row),.own 1 v.door.flows.length,.own 3 v.nets.length],.arr 181 8 (v.door.flows.map Flw.row),.arr 47 10 (v.convs.map Conv.row),.arr 70 7 (v.nets.map Pk.row)]):=by
 refine mP dg45 Tryz.ntmps45 ⟨_,_,rfl,_,rfl,rfl⟩ ?_
 have hnl:=hw.nl
 have hcl:=hw.cl
 have hml:=(mapOk_ports (doorOk_iff.1 hw.door).1).2
 have fin:∀l mm (v:M.World) (n1 n2 n3:Nat),v=wDo w e→getH mm 0=.var 41 [.own n2 v.convs.length,.sl 3 (v.door.map.map Pair.row),.own n1 v.door.flows.length,.own n3 v.nets.length]→getH mm n1=.arr 181 8 (v.door.flows.map Flw.row)→getH mm n2=.arr 47 10 (v.convs.map Conv.row)→getH mm n3=.arr 70 7 (v.nets.map Pk.row)→[0,n1,n2,n3].Nodup →
  retQ [] 1 (fun r o=>r=.tup []∧∃v,v=wDo w e∧o=[.var 41 [.own 2 v.convs.length,.sl 3 (v.door.map.map Pair.row),.own 1 v.door.flows.length,.own 3 v.nets.length],.arr 181 8 (v.door.flows.map Flw.row),.arr 47 10 (v.convs.map Conv.row),.arr 70 7 (v.nets.map Pk.row)]) .normal ⟨getL l,getH mm⟩:=fun l mm v n1 n2 n3 h0 h1 h2 h3 h4 h5=>by
  show retQ _ _ _ .ret _
  refine retN (.tup []) [.var 41 [.own 2 v.convs.length,.sl 3 (v.door.map.map Pair.row),.own 1 v.door.flows.length,.own 3 v.nets.length],.arr 181 8 (v.door.flows.map Flw.row),.arr 47 10 (v.convs.map Conv.row),.arr 70 7 (v.nets.map Pk.row)] [(1,n1),(2,n2),(3,n3)] (by simp only[go_sem,resL_0]) ⟨rfl,v,h0,rfl⟩ ?_ (by simpa[argH,getN] using h5) (by simp only[go_sem])
  simp only[go_sem,h1,h2,h3,h4]
 have opt_i:∀o:Option Pk,(bif o.isSome then some (o.getD .zero) else none)=o:=fun o=>by cases o<;>rfl
 by_cases k1:e.kind=1
 ·have hk:=k1
  cases hbc:within e.a 0 ((w.convs.length:Int) - 1)
  ·have hx:wDo w e=w:=by simp[wDo,hk,sayW,hbc,send]
   simp only[ic45,go_sem,hk]
   with_reducible repeat' (first|rw[i64w (by omega)];try simp only[go_sem,hk,hbc]|refine br ?_ ?_<;>intro h e<;>(try simp only[e,go_sem,hk,hbc])<;>clear e|refine sd ?_<;>try simp only[go_sem,hk,hbc]|(first|refine cr (c76 ..) ?_)<;>try simp only[go_sem,hk,hbc]|fail)
   exact fin _ _ w 1 2 3 hx.symm (by simp only[go_sem]) (by simp only[go_sem]) (by simp only[go_sem]) (by simp only[go_sem]) (by decide)
  have hb2:=M.within_iff.1 hbc
  have hil:e.a.toNat<w.convs.length:=by omega
  have hg0:w.convs.getD e.a.toNat default=w.convs[e.a.toNat]:=by simp[List.getD,hil]
  have hcb:=convOk_B (hw.cv _ (List.getElem_mem hil))
  have hsw:sayW w true e.a e.b e.c=say w.convs[e.a.toNat] true 0 e.b e.c:=by simp only[sayW,hbc,if_true,zE hil];rfl
  have hx:wDo w e=send w (sayW w true e.a e.b e.c):=by simp[wDo,hk]
  have fs:=c78 w.convs[e.a.toNat] true 0 e.b e.c (by have:=hcb.up;omega) (by have:=hcb.down;omega)
  rw[hsw] at hx
  generalize w.convs[e.a.toNat]=cv at *
  simp only[ic45,go_sem,hk]
  with_reducible repeat' (first|rw[i64w (by omega)];try simp only[go_sem,hk,hbc,getD_mp hil,hg0]|refine br ?_ ?_<;>intro h e<;>(try simp only[e,go_sem,hk,hbc,getD_mp hil,hg0])<;>clear e|refine sd ?_<;>try simp only[go_sem,hk,hbc,getD_mp hil,hg0]|(first|refine cr (c76 ..) ?_|refine cr (fs ..) ?_)<;>try simp only[go_sem,hk,hbc,getD_mp hil,hg0]|fail)
  generalize say cv true 0 e.b e.c=o at *
  refine callN (c77 w (o.getD .zero) o.isSome (by omega)) [0,1,2,3] [] true 48 4 (by simp only[go_sem];first|done|simp) (by simp only[go_sem];first|done|simp) (by simp) (by simp) (by simp) ?_ ?_ ?_
  ·rintro _ _ ⟨rfl,v,hv,rfl⟩
   exact⟨by simp,by simp,.inl rfl,fun i hi=>by obtain rfl:i=0:=(by omega);simp[chH,stepOk]⟩
  ·intro i hi
   rcases(show i=0∨i=1∨i=2∨i=3 by omega) with rfl|rfl|rfl|rfl<;>simp only[go_sem]
  rintro _ _ ⟨rfl,vv,hvv,rfl⟩
  simp only[go_sem]
  with_reducible repeat' (first|refine br ?_ ?_<;>intro h e<;>(try simp only[e,go_sem])<;>clear e|rw[i64w (by omega)]|refine sd ?_<;>try simp only[go_sem]|fail)
  rw[opt_i,←hx] at hvv
  exact fin _ _ vv 104801 104802 104803 hvv (by simp only[go_sem]) (by simp only[go_sem]) (by simp only[go_sem]) (by simp only[go_sem]) (by decide)
 by_cases k2:e.kind=2
 ·have hk:=k2
  cases hbc:within e.a 0 ((w.convs.length:Int) - 1)
  ·have hx:wDo w e=w:=by simp[wDo,hk,sayW,hbc,send]
   simp only[ic45,go_sem,hk]
   with_reducible repeat' (first|rw[i64w (by omega)];try simp only[go_sem,hk,hbc]|refine br ?_ ?_<;>intro h e<;>(try simp only[e,go_sem,hk,hbc])<;>clear e|refine sd ?_<;>try simp only[go_sem,hk,hbc]|(first|refine cr (c76 ..) ?_)<;>try simp only[go_sem,hk,hbc]|fail)
   exact fin _ _ w 1 2 3 hx.symm (by simp only[go_sem]) (by simp only[go_sem]) (by simp only[go_sem]) (by simp only[go_sem]) (by decide)
  have hb2:=M.within_iff.1 hbc
  have hil:e.a.toNat<w.convs.length:=by omega
  have hg0:w.convs.getD e.a.toNat default=w.convs[e.a.toNat]:=by simp[List.getD,hil]
  have hcb:=convOk_B (hw.cv _ (List.getElem_mem hil))
  have hsw:sayW w false e.a e.b e.c=say w.convs[e.a.toNat] false (portOf w.door.map w.convs[e.a.toNat].ins) e.b e.c:=by simp only[sayW,hbc,if_true,zE hil];rfl
  have hx:wDo w e=send w (sayW w false e.a e.b e.c):=by simp[wDo,hk]
  have hA:((e.a.toNat:Nat):Int)=e.a:=by omega
  have fp:=c79 w e.a.toNat hil (by omega)
  rw[hg0,hA] at fp
  have fs:=c78 w.convs[e.a.toNat] false (portOf w.door.map w.convs[e.a.toNat].ins) e.b e.c (by have:=hcb.up;omega) (by have:=hcb.down;omega)
  rw[hsw] at hx
  generalize w.convs[e.a.toNat]=cv at *
  simp only[ic45,go_sem,hk]
  with_reducible repeat' (first|rw[i64w (by omega)];try simp only[go_sem,hk,hbc,getD_mp hil,hg0]|refine br ?_ ?_<;>intro h e<;>(try simp only[e,go_sem,hk,hbc,getD_mp hil,hg0])<;>clear e|refine sd ?_<;>try simp only[go_sem,hk,hbc,getD_mp hil,hg0]|(first|refine cr (c76 ..) ?_)<;>try simp only[go_sem,hk,hbc,getD_mp hil,hg0]|fail)
  refine callRd fp [0,1,2,3] 68 4 (by simp only[go_sem];first|done|simp) (by simp only[go_sem];first|done|simp) (by simp) (by simp) ?_ ?_ ?_ ?_
  ·rintro _ _ ⟨rfl,rfl⟩
   exact⟨by simp,by simp,fun i hi=>by rcases(show i=0∨i=1∨i=2∨i=3 by omega) with rfl|rfl|rfl|rfl<;>simp[chH,stepOk]⟩
  ·intro i hi
   rcases(show i=0∨i=1∨i=2∨i=3 by omega) with rfl|rfl|rfl|rfl<;>simp only[go_sem]
  ·rintro _ _ ⟨rfl,rfl⟩ x hx
   simp only[go_sem,List.drop_succ_cons,List.drop_nil,List.append_nil,List.mem_cons,List.not_mem_nil,or_false] at hx
   rcases hx with rfl|rfl|rfl|rfl<;>simp only[go_sem]
  rintro _ _ ⟨rfl,rfl⟩
  simp only[go_sem]
  with_reducible repeat' (first|refine br ?_ ?_<;>intro h e<;>(try simp only[e,go_sem,hk,getD_mp hil,hg0])<;>clear e|rw[i64w (by omega)]|refine sd ?_<;>try simp only[go_sem,hk,getD_mp hil,hg0]|(first|refine cr (fs ..) ?_)<;>try simp only[go_sem,hk,getD_mp hil,hg0]|fail)
  generalize say cv false (portOf w.door.map cv.ins) e.b e.c=o at *
  refine callN (c77 w (o.getD .zero) o.isSome (by omega)) [0,1,2,3] [] true 76 4 (by simp only[go_sem];first|done|simp) (by simp only[go_sem];first|done|simp) (by simp) (by simp) (by simp) ?_ ?_ ?_
  ·rintro _ _ ⟨rfl,v,hv,rfl⟩
   exact⟨by simp,by simp,.inl rfl,fun i hi=>by obtain rfl:i=0:=(by omega);simp[chH,stepOk]⟩
  ·intro i hi
   rcases(show i=0∨i=1∨i=2∨i=3 by omega) with rfl|rfl|rfl|rfl<;>simp only[go_sem]
  rintro _ _ ⟨rfl,vv,hvv,rfl⟩
  simp only[go_sem]
  with_reducible repeat' (first|refine br ?_ ?_<;>intro h e<;>(try simp only[e,go_sem])<;>clear e|rw[i64w (by omega)]|refine sd ?_<;>try simp only[go_sem]|fail)
  rw[opt_i,←hx] at hvv
  exact fin _ _ vv 107601 107602 107603 hvv (by simp only[go_sem]) (by simp only[go_sem]) (by simp only[go_sem]) (by simp only[go_sem]) (by decide)
 by_cases k3:e.kind=3
 ·have hk:=k3
  cases hbn:within e.a 0 ((w.nets.length:Int) - 1)
  ·have hx:wDo w e=w:=by simp[wDo,hk,hbn]
   simp only[ic45,go_sem,hk]
   with_reducible repeat' (first|rw[i64w (by omega)];try simp only[go_sem,hk,hbn]|refine br ?_ ?_<;>intro h e<;>(try simp only[e,go_sem,hk,hbn])<;>clear e|refine sd ?_<;>try simp only[go_sem,hk,hbn]|(first|refine cr (c76 ..) ?_)<;>try simp only[go_sem,hk,hbn]|fail)
   exact fin _ _ w 1 2 3 hx.symm (by simp only[go_sem]) (by simp only[go_sem]) (by simp only[go_sem]) (by simp only[go_sem]) (by decide)
  have hb2:=M.within_iff.1 hbn
  have hil:e.a.toNat<w.nets.length:=by omega
  have hg0:w.nets.getD e.a.toNat default=w.nets[e.a.toNat]:=by simp[List.getD,hil]
  have hg2:w.nets[e.a.toNat]?=some w.nets[e.a.toNat]:=zE hil
  have hA:((e.a.toNat:Nat):Int)=e.a:=by omega
  have hnp:=hw.net _ (List.mem_of_getElem? hg2)
  have hx:wDo w e=send (carry { w with nets:=w.nets.eraseIdx e.a.toNat } w.nets[e.a.toNat]).1 (carry { w with nets:=w.nets.eraseIdx e.a.toNat } w.nets[e.a.toNat]).2:=by simp[wDo,hk,hbn,hg2]
  have ft:=c81 w e.a.toNat hil (by omega)
  rw[hg0,hA] at ft
  generalize hp:w.nets[e.a.toNat]=p at *
  simp only[ic45,go_sem,hk]
  with_reducible repeat' (first|rw[i64w (by omega)];try simp only[go_sem,hk,hbn]|refine br ?_ ?_<;>intro h e<;>(try simp only[e,go_sem,hk,hbn])<;>clear e|refine sd ?_<;>try simp only[go_sem,hk,hbn]|(first|refine cr (c76 ..) ?_)<;>try simp only[go_sem,hk,hbn]|fail)
  refine callN ft [0,1,2,3] [] true 89 4 (by simp only[go_sem];first|done|simp) (by simp only[go_sem];first|done|simp) (by simp) (by simp) (by simp) ?_ ?_ ?_
  ·rintro _ _ ⟨rfl,v,hv,rfl⟩
   exact⟨by simp,by simp,.inl rfl,fun i hi=>by obtain rfl:i=0:=(by omega);simp[chH,stepOk]⟩
  ·intro i hi
   rcases(show i=0∨i=1∨i=2∨i=3 by omega) with rfl|rfl|rfl|rfl<;>simp only[go_sem]
  rintro _ _ ⟨rfl,v,hv,rfl⟩
  simp only[go_sem]
  with_reducible repeat' (first|refine br ?_ ?_<;>intro h e<;>(try simp only[e,go_sem])<;>clear e|rw[i64w (by omega)]|refine sd ?_<;>try simp only[go_sem]|fail)
  rw[←hv] at hx
  have hwv:WX X v:=by rw[hv];exact hw.erase _
  have hcv:v.convs=w.convs:=by rw[hv]
  have hok:=(carry_X hwv (by rw[hcv];exact hnp)).1
  refine callN (x80 v p hwv hnp.pk) [0,108901,108902,108903] [] true 90 4 (by simp only[go_sem];first|done|simp) (by simp only[go_sem];first|done|simp) (by simp) (by simp) (by simp) ?_ ?_ ?_
  ·rintro _ _ ⟨q,rfl,hq,rfl⟩
   exact⟨by simp,by simp,.inl rfl,fun i hi=>by obtain rfl:i=0:=(by omega);simp[chH,stepOk]⟩
  ·intro i hi
   rcases(show i=0∨i=1∨i=2∨i=3 by omega) with rfl|rfl|rfl|rfl<;>simp only[go_sem]
  rintro _ _ ⟨q,rfl,hq,rfl⟩
  generalize carry v p=r at *
  obtain⟨v1,o⟩:=r
  simp only at hok hx hq
  have hn1:=hok.nl
  simp only[go_sem]
  with_reducible repeat' (first|refine br ?_ ?_<;>intro h e<;>(try simp only[e,go_sem])<;>clear e|rw[i64w (by omega)]|refine sd ?_<;>try simp only[go_sem]|fail)
  refine callN (c77 v1 q o.isSome (by omega)) [0,109001,109002,109003] [] true 93 4 (by simp only[go_sem];first|done|simp) (by simp only[go_sem];first|done|simp) (by simp) (by simp) (by simp) ?_ ?_ ?_
  ·rintro _ _ ⟨rfl,v,hv,rfl⟩
   exact⟨by simp,by simp,.inl rfl,fun i hi=>by obtain rfl:i=0:=(by omega);simp[chH,stepOk]⟩
  ·intro i hi
   rcases(show i=0∨i=1∨i=2∨i=3 by omega) with rfl|rfl|rfl|rfl<;>simp only[go_sem]
  rintro _ _ ⟨rfl,vv,hvv,rfl⟩
  simp only[go_sem]
  with_reducible repeat' (first|refine br ?_ ?_<;>intro h e<;>(try simp only[e,go_sem])<;>clear e|rw[i64w (by omega)]|refine sd ?_<;>try simp only[go_sem]|fail)
  have ho:(bif o.isSome then some q else none)=o:=by cases o with
   | none=>rfl
   | some q'=>rw[hq q' rfl];rfl
  rw[ho,←hx] at hvv
  exact fin _ _ vv 109301 109302 109303 hvv (by simp only[go_sem]) (by simp only[go_sem]) (by simp only[go_sem]) (by simp only[go_sem]) (by decide)
 by_cases k4:e.kind=4
 ·have hk:=k4
  cases hbn:within e.a 0 ((w.nets.length:Int) - 1)
  ·have hx:wDo w e=w:=by simp[wDo,hk,hbn]
   simp only[ic45,go_sem,hk]
   with_reducible repeat' (first|rw[i64w (by omega)];try simp only[go_sem,hk,hbn]|refine br ?_ ?_<;>intro h e<;>(try simp only[e,go_sem,hk,hbn])<;>clear e|refine sd ?_<;>try simp only[go_sem,hk,hbn]|(first|refine cr (c76 ..) ?_)<;>try simp only[go_sem,hk,hbn]|fail)
   exact fin _ _ w 1 2 3 hx.symm (by simp only[go_sem]) (by simp only[go_sem]) (by simp only[go_sem]) (by simp only[go_sem]) (by decide)
  have hb2:=M.within_iff.1 hbn
  have hil:e.a.toNat<w.nets.length:=by omega
  have hg0:w.nets.getD e.a.toNat default=w.nets[e.a.toNat]:=by simp[List.getD,hil]
  have hg2:w.nets[e.a.toNat]?=some w.nets[e.a.toNat]:=zE hil
  have hA:((e.a.toNat:Nat):Int)=e.a:=by omega
  have hnp:=hw.net _ (List.mem_of_getElem? hg2)
  have hx:wDo w e={ w with nets:=w.nets.eraseIdx e.a.toNat }:=by simp[wDo,hk,hbn]
  have ft:=c81 w e.a.toNat hil (by omega)
  rw[hg0,hA] at ft
  generalize hp:w.nets[e.a.toNat]=p at *
  simp only[ic45,go_sem,hk]
  with_reducible repeat' (first|rw[i64w (by omega)];try simp only[go_sem,hk,hbn]|refine br ?_ ?_<;>intro h e<;>(try simp only[e,go_sem,hk,hbn])<;>clear e|refine sd ?_<;>try simp only[go_sem,hk,hbn]|(first|refine cr (c76 ..) ?_)<;>try simp only[go_sem,hk,hbn]|fail)
  refine callN ft [0,1,2,3] [] true 104 4 (by simp only[go_sem];first|done|simp) (by simp only[go_sem];first|done|simp) (by simp) (by simp) (by simp) ?_ ?_ ?_
  ·rintro _ _ ⟨rfl,v,hv,rfl⟩
   exact⟨by simp,by simp,.inl rfl,fun i hi=>by obtain rfl:i=0:=(by omega);simp[chH,stepOk]⟩
  ·intro i hi
   rcases(show i=0∨i=1∨i=2∨i=3 by omega) with rfl|rfl|rfl|rfl<;>simp only[go_sem]
  rintro _ _ ⟨rfl,v,hv,rfl⟩
  simp only[go_sem]
  with_reducible repeat' (first|refine br ?_ ?_<;>intro h e<;>(try simp only[e,go_sem])<;>clear e|rw[i64w (by omega)]|refine sd ?_<;>try simp only[go_sem]|fail)
  rw[←hx] at hv
  exact fin _ _ v 110401 110402 110403 hv (by simp only[go_sem]) (by simp only[go_sem]) (by simp only[go_sem]) (by simp only[go_sem]) (by decide)
 by_cases k5:e.kind=5
 ·have hk:=k5
  cases hbn:within e.a 0 ((w.nets.length:Int) - 1)
  ·have hx:wDo w e=w:=by simp[wDo,hk,hbn]
   simp only[ic45,go_sem,hk]
   with_reducible repeat' (first|rw[i64w (by omega)];try simp only[go_sem,hk,hbn]|refine br ?_ ?_<;>intro h e<;>(try simp only[e,go_sem,hk,hbn])<;>clear e|refine sd ?_<;>try simp only[go_sem,hk,hbn]|(first|refine cr (c76 ..) ?_)<;>try simp only[go_sem,hk,hbn]|fail)
   exact fin _ _ w 1 2 3 hx.symm (by simp only[go_sem]) (by simp only[go_sem]) (by simp only[go_sem]) (by simp only[go_sem]) (by decide)
  have hb2:=M.within_iff.1 hbn
  have hil:e.a.toNat<w.nets.length:=by omega
  have hg0:w.nets.getD e.a.toNat default=w.nets[e.a.toNat]:=by simp[List.getD,hil]
  have hg2:w.nets[e.a.toNat]?=some w.nets[e.a.toNat]:=zE hil
  have hA:((e.a.toNat:Nat):Int)=e.a:=by omega
  have hnp:=hw.net _ (List.mem_of_getElem? hg2)
  have hx:wDo w e=send w (some w.nets[e.a.toNat]):=by simp[wDo,hk,hbn,hg2]
  generalize w.nets[e.a.toNat]=p at *
  simp only[ic45,go_sem,hk]
  with_reducible repeat' (first|rw[i64w (by omega)];try simp only[go_sem,hk,hbn,getD_mp hil,hg0]|refine br ?_ ?_<;>intro h e<;>(try simp only[e,go_sem,hk,hbn,getD_mp hil,hg0])<;>clear e|refine sd ?_<;>try simp only[go_sem,hk,hbn,getD_mp hil,hg0]|(first|refine cr (c76 ..) ?_)<;>try simp only[go_sem,hk,hbn,getD_mp hil,hg0]|fail)
  refine callN (c77 w p true (by omega)) [0,1,2,3] [] true 121 4 (by simp only[go_sem];first|done|simp) (by simp only[go_sem];first|done|simp) (by simp) (by simp) (by simp) ?_ ?_ ?_
  ·rintro _ _ ⟨rfl,v,hv,rfl⟩
   exact⟨by simp,by simp,.inl rfl,fun i hi=>by obtain rfl:i=0:=(by omega);simp[chH,stepOk]⟩
  ·intro i hi
   rcases(show i=0∨i=1∨i=2∨i=3 by omega) with rfl|rfl|rfl|rfl<;>simp only[go_sem]
  rintro _ _ ⟨rfl,vv,hvv,rfl⟩
  simp only[go_sem]
  with_reducible repeat' (first|refine br ?_ ?_<;>intro h e<;>(try simp only[e,go_sem])<;>clear e|rw[i64w (by omega)]|refine sd ?_<;>try simp only[go_sem]|fail)
  simp only[cond_true] at hvv
  rw[←hx] at hvv
  exact fin _ _ vv 112101 112102 112103 hvv (by simp only[go_sem]) (by simp only[go_sem]) (by simp only[go_sem]) (by simp only[go_sem]) (by decide)
 by_cases k6:e.kind=6
 ·have hk:=k6
  have fc:=c71D w.convs e (by omega)
  simp only[hk] at fc
  have f1:=c83 e.pkt ht
  have f2:=c84 e.pkt
  have hx:wDo w e=send w (bif stranger w e.pkt then some e.pkt else none):=by
   simp only[wDo,hk]
   cases stranger w e.pkt<;>simp[send]
  rw[stranger_e] at hx
  generalize w.convs.any (strC e.pkt)=ba at *
  generalize pkOk e.pkt=bp at *
  generalize e.pkt.inward=bi at *
  simp only[ic45,go_sem,hk]
  with_reducible repeat' (first|rw[i64w (by omega)];try simp only[go_sem,hk,mkf_pv1]|refine br ?_ ?_<;>intro h e<;>(try simp only[e,go_sem,hk,mkf_pv1])<;>clear e|refine sd ?_<;>try simp only[go_sem,hk,mkf_pv1]|(first|refine cr (c76 ..) ?_)<;>try simp only[go_sem,hk,mkf_pv1]|fail)
  refine callF fc [2,1003] false (by simp only[go_sem,List.mem_cons,true_or,or_true]) (by simp only[List.mem_cons,List.not_mem_nil,or_false];rintro c (rfl|rfl)<;>simp only[go_sem]) rfl (.inr rfl) ?_
  cases ba<;>cases bp<;>cases bi
  all_goals
   simp only[go_sem]
   with_reducible repeat' (first|refine br ?_ ?_<;>intro h e<;>(try simp only[e,go_sem])<;>clear e|rw[i64w (by omega)]|refine sd ?_<;>try simp only[go_sem]|(first|refine cr (f1 ..) ?_|refine cr (f2 ..) ?_)<;>try simp only[go_sem]|fail)
  all_goals first
   | (
      refine callN (c77 w e.pkt false (by omega)) [0,1,2,3] [] true 147 4 (by simp only[go_sem];first|done|simp) (by simp only[go_sem];first|done|simp) (by simp) (by simp) (by simp) ?_ ?_ ?_
      ·rintro _ _ ⟨rfl,v,hv,rfl⟩
       exact⟨by simp,by simp,.inl rfl,fun i hi=>by obtain rfl:i=0:=(by omega);simp[chH,stepOk]⟩
      ·intro i hi
       rcases(show i=0∨i=1∨i=2∨i=3 by omega) with rfl|rfl|rfl|rfl<;>simp only[go_sem]
      rintro _ _ ⟨rfl,vv,hvv,rfl⟩
      simp only[go_sem]
      with_reducible repeat' (first|refine br ?_ ?_<;>intro h e<;>(try simp only[e,go_sem])<;>clear e|rw[i64w (by omega)]|refine sd ?_<;>try simp only[go_sem]|fail)
      simp only[Bool.not_true,Bool.not_false,Bool.and_true,Bool.and_false,Bool.true_and,Bool.false_and,Bool.and_self,cond_true,cond_false] at hx hvv
      rw[←hx] at hvv
      exact fin _ _ vv 114701 114702 114703 hvv (by simp only[go_sem]) (by simp only[go_sem]) (by simp only[go_sem]) (by simp only[go_sem]) (by decide)
      done
      )
   | (
      refine callN (c77 w e.pkt true (by omega)) [0,1,2,3] [] true 147 4 (by simp only[go_sem];first|done|simp) (by simp only[go_sem];first|done|simp) (by simp) (by simp) (by simp) ?_ ?_ ?_
      ·rintro _ _ ⟨rfl,v,hv,rfl⟩
       exact⟨by simp,by simp,.inl rfl,fun i hi=>by obtain rfl:i=0:=(by omega);simp[chH,stepOk]⟩
      ·intro i hi
       rcases(show i=0∨i=1∨i=2∨i=3 by omega) with rfl|rfl|rfl|rfl<;>simp only[go_sem]
      rintro _ _ ⟨rfl,vv,hvv,rfl⟩
      simp only[go_sem]
      with_reducible repeat' (first|refine br ?_ ?_<;>intro h e<;>(try simp only[e,go_sem])<;>clear e|rw[i64w (by omega)]|refine sd ?_<;>try simp only[go_sem]|fail)
      simp only[Bool.not_true,Bool.not_false,Bool.and_true,Bool.and_false,Bool.true_and,Bool.false_and,Bool.and_self,cond_true,cond_false] at hx hvv
      rw[←hx] at hvv
      exact fin _ _ vv 114701 114702 114703 hvv (by simp only[go_sem]) (by simp only[go_sem]) (by simp only[go_sem]) (by simp only[go_sem]) (by decide)
      done
      )
 have hx:wDo w e=w:=by simp[wDo, *]
 simp only[ic45,go_sem]
 with_reducible repeat' (first|rw[i64w (by omega)];try simp only[go_sem,eq_false k1,eq_false k2,eq_false k3,eq_false k4,eq_false k5,eq_false k6]|refine br ?_ ?_<;>intro h e<;>(try simp only[e,go_sem,eq_false k1,eq_false k2,eq_false k3,eq_false k4,eq_false k5,eq_false k6])<;>clear e|refine sd ?_<;>try simp only[go_sem,eq_false k1,eq_false k2,eq_false k3,eq_false k4,eq_false k5,eq_false k6]|(first|refine cr (c76 ..) ?_)<;>try simp only[go_sem,eq_false k1,eq_false k2,eq_false k3,eq_false k4,eq_false k5,eq_false k6]|fail)
 exact fin _ _ w 1 2 3 hx.symm (by simp only[go_sem]) (by simp only[go_sem]) (by simp only[go_sem]) (by simp only[go_sem]) (by decide)
theorem convNew_is' {i o:E} {up down:B} {n:Conv} (h:convNew i o up down=some n):n=⟨i,o,up,down,0,0,[],[]⟩:=by
 unfold convNew at h
 split at h<;>cases h
 rfl
theorem newConvs_cons' (c:Conv) (cs:List Conv):newConvs (c::cs)=match convNew c.ins c.out c.up c.down with
 | some n=>(newConvs cs).map (n::·)
 | none=>none:=by
 simp only[newConvs]
 cases convNew c.ins c.out c.up c.down<;>cases newConvs cs<;>rfl
def newI (o:Option M.World) (r:V) (out:List Hs):Prop:=(∃w,o=some w∧r=.tup [.agg [.own 0 w.convs.length,.nils,.nils,.nils],.bool true]∧out=[.arr 47 10 (w.convs.map Conv.row)])∨(o=none∧r=.tup [.agg [.nils,.nils,.nils,.nils],.bool false]∧out=[])
theorem newI_ex (o:Option M.World):∃r out,newI o r out:=by
 cases o with
 | none=>exact⟨_,_,.inr ⟨rfl,rfl,rfl⟩⟩
 | some w=>exact⟨_,_,.inl ⟨w,rfl,rfl,rfl⟩⟩
def ic23:IC:=sR [oP 2 (.alloc 41 [.nils,.nils,.nils,.nils]),oP 3 (.mv (.c (.bool false)))] (sR [mV 9 0,oP 10 (.len (.t 9)),oP 11 (.mks 47 10 (.t 10)),oP 12 (.build [.nils,.nils,.nils,.nils] [(0,(1,.t 11))]),oP 4 (.alloc 41 [.nils,.nils,.nils,.nils]),nP (.sto 4 (.t 4) (.t 12))] (.seq (sR [mV 13 0,oP 14 (.len (.t 13)),oP 15 (.mv (.c i0))] (.block 0 (.loop (sR [bN 16 .lss 15 14] (.seq (.cond (.t 16) .skip (.exit 0)) (.seq (.block 1 (sR [oP 17 (.iad 10 (.t 13) (.t 15)),lA 18 10 17,oP 6 (.alloc 47 [i0,i0,i0,i0,s0,s0,i0,i0,s0,s0]),nP (.sto 10 (.t 6) (.t 18))] (sR [fD 20 0 6,lA 21 2 20,fD 22 2 6,lA 23 2 22,fD 24 4 6,lD 25 1 24,fD 26 5 6,lD 27 1 26,oP 28 (.call 40 [.t 21,.t 23,.t 25,.t 27]),mV 19 28,eX 29 19 0,eX 30 19 1,oP 7 (.alloc 47 [i0,i0,i0,i0,s0,s0,i0,i0,s0,s0]),nP (.sto 10 (.t 7) (.t 29)),mV 8 30] (.seq (sR [mV 31 8,oP 32 (.un .not (.t 31))] (.cond (.t 32) (sR [oP 33 (.build [.nils,.nils,.nils,.nils] []),nP (.sto 4 (.t 2) (.t 33)),oP 3 (.mv (.c (.bool false)))] .ret) .skip)) (.reg [fD 34 0 4,lD 35 1 34,lA 36 10 7,oP 37 (.bsl 47 10 [.t 36]),oP 38 (.app 47 10 (.t 35) (.t 37)),fD 39 0 4,nP (.sto 1 (.t 39) (.t 38))]))))) (.reg [oP 40 (.bin .add (.t 15) (.c (.int .i64 1))),mV 15 40]))))))) (.seq (sR [fD 41 0 4,lD 42 1 41,oP 43 (.call 41 [.t 42]),oP 44 (.un .not (.t 43))] (.cond (.t 44) (sR [oP 45 (.build [.nils,.nils,.nils,.nils] []),nP (.sto 4 (.t 2) (.t 45)),oP 3 (.mv (.c (.bool false)))] .ret) .skip)) (sR [lA 46 4 4,nP (.sto 4 (.t 2) (.t 46)),oP 3 (.mv (.c (.bool true)))] .ret))))
theorem dg23:Dg Tryz.prog 23 Tryz.f23 ic23 [(.cell 2 4 true),(.t 3)]:=⟨Tryz.func23,by kernel_rfl,by kernel_rfl⟩
theorem c23 (cs:List Conv) (hl:cs.length≤1000000) (hB:∀c∈cs,c.up.length≤2000000∧c.down.length≤2000000):FnP Tryz.prog G 23 0 [] [.sl 10 (cs.map Conv.row)] (newI (worldNew cs)):=by
 refine mP dg23 Tryz.ntmps23 (newI_ex _) ?_
 have none':∀l mm,worldNew cs=none→getL l 2=.pv 1002 0→getL l 3=.bool false→getH mm 1002=.var 41 [.nils,.nils,.nils,.nils]→retQ [.cell 2 4 true,.t 3] 0 (newI (worldNew cs)) .ret ⟨getL l,getH mm⟩:=fun l mm h1 h2 h3 h4=>by
  refine retN (.tup [.agg [.nils,.nils,.nils,.nils],.bool false]) [] [] ?_ (.inr ⟨h1,rfl,rfl⟩) (by simp only[go_sem]) (by simp[argH]) (by simp only[go_sem])
  simp only[go_sem,h2,h3,h4]
 simp only[ic23,go_sem]
 with_reducible repeat' (first|refine br ?_ ?_<;>intro h e<;>(try simp only[e,go_sem])<;>clear e|rw[i64w (by omega)]|refine sd ?_<;>try simp only[go_sem]|fail)
 refine loopN (fun a:Nat×List Conv=>⟨getL [(2,.pv 1002 0),(4,.pv 1004 0),(13,.sl 10 (cs.map Conv.row)),(14,.int .i64 cs.length),(15,.int .i64 (a.1:Int))],getH [(1002,.var 41 [.nils,.nils,.nils,.nils]),(1004,.var 41 [.own 1011 a.2.length,.nils,.nils,.nils]),(1011,.arr 47 10 (a.2.map Conv.row))]⟩)
  (fun a=>cs.length - a.1) (fun a=>a.1≤cs.length∧a.2.length=a.1∧newConvs cs=(newConvs (cs.drop a.1)).map (a.2++·)∧∀c∈a.2,(c.up.length≤2000000∧c.down.length≤2000000)∧c.upGot.length≤2000000∧c.downGot.length≤2000000) (0,[]) (leQ []) ⟨Nat.zero_le _,rfl,by simp,by simp⟩ ?_
 intro⟨i,ns⟩ ⟨hi,hnl,hnc,hnB⟩
 simp only at hi hnl hnc hnB
 simp only[go_sem]
 by_cases h:(i:Int)<cs.length
 ·have hil:i<cs.length:=by omega
  have hg:cs.getD i default=cs[i]:=by simp[List.getD,hil]
  obtain⟨b1,b2⟩:=hB _ (List.getElem_mem hil)
  rw[List.drop_eq_getElem_cons hil,newConvs_cons'] at hnc
  have c1:=c40 cs[i].ins cs[i].out cs[i].up cs[i].down b1 b2
  simp only[eq_true h,go_sem]
  with_reducible repeat' (first|refine br ?_ ?_<;>intro h e<;>(try simp only[e,go_sem,hg])<;>clear e|rw[i64w (by omega)]|refine sd ?_<;>try simp only[go_sem,hg]|(first|refine cr (c1 ..) ?_)<;>try simp only[go_sem,hg]|fail)
  ·obtain⟨n,hn⟩:=Option.isSome_iff_exists.1 (by assumption)
   have hni:=convNew_is' hn
   simp only[hn,Option.getD_some] at hnc ⊢
   refine⟨(i+1,ns++[n]),by simp only;omega,⟨by simp only;omega,by simp only[zA,zC,zN];omega, ?_, ?_⟩,leN [(1011,1038)] ?_ ?_ (by simp[getN]) (by simp only[go_sem])⟩
   ·simp only
    rw[hnc]
    cases newConvs (cs.drop (i+1))<;>simp
   ·intro c hc
    rcases List.mem_append.1 hc with hc|hc
    ·exact hnB c hc
    ·simp only[List.mem_singleton] at hc
     subst hc
     rw[hni]
     exact⟨⟨b1,b2⟩,by simp,by simp⟩
   ·simp only[go_sem];simp
   ·simp only[go_sem];simp[Conv.row]
  ·have hn:convNew cs[i].ins cs[i].out cs[i].up cs[i].down=none:=by simpa using h
   rw[hn] at hnc
   simp only[Option.map_none] at hnc
   exact none' _ _ (by simp[worldNew,hnc]) (by simp only[go_sem]) (by simp only[go_sem]) (by simp only[go_sem])
 ·simp only[eq_false h,go_sem]
  have:i=cs.length:=by omega
  subst this
  rw[List.drop_length] at hnc
  simp only[newConvs,Option.map_some,List.append_nil] at hnc
  refine callF (c41 ns (by omega) hnB) [1011] false (by simp only[go_sem];first|done|simp[E.row,Pc.row,Pair.row,Part.row,Flw.row,Pk.row,Conv.row]) (by simp only[List.mem_singleton];rintro c rfl;rfl) rfl (.inr rfl) ?_
  simp only[go_sem]
  cases ht:together ns<;>simp only[go_sem]
  ·exact none' _ _ (by simp[worldNew,hnc,ht]) (by simp only[go_sem]) (by simp only[go_sem]) (by simp only[go_sem])
  ·refine retN (.tup [.agg [.own 0 ns.length,.nils,.nils,.nils],.bool true]) [.arr 47 10 (ns.map Conv.row)] [(0,1011)] ?_ (.inl ⟨⟨ns,.zero,[]⟩,by simp[worldNew,hnc,ht],rfl,rfl⟩) ?_ (by simp[argH,getN]) (by simp only[go_sem])
   ·simp only[go_sem]
   ·simp only[go_sem]
def endQ (r:V):Prop:=∃e:E,(0≤e.a∧e.a≤12)∧(0≤e.p∧e.p≤20)∧r=.agg [.int .i64 e.a,.int .i64 e.p]
def ic61:IC:=sR [oP 2 (.alloc 45 [i0,i0])] (.seq (sR [mV 3 0,oP 4 (.call 18 [.t 3,.c (.int .i64 12)])] (.block 0 (.seq (sR [oP 6 (.bin .eql (.t 4) (.c i0)),mV 5 6] (.cond (.t 5) .skip (sR [oP 7 (.bin .eql (.t 4) (.c (.int .i64 1))),mV 5 7] (.cond (.t 5) .skip (sR [oP 8 (.bin .eql (.t 4) (.c (.int .i64 2))),mV 5 8] (.cond (.t 5) .skip (.reg [oP 9 (.bin .eql (.t 4) (.c (.int .i64 3))),mV 5 9]))))))) (.cond (.t 5) (sR [mV 10 0,oP 11 (.call 18 [.t 10,.c (.int .i64 3)]),oP 12 (.bin .add (.c (.int .i64 1)) (.t 11)),mV 13 0,oP 14 (.call 18 [.t 13,.c (.int .i64 9)]),oP 15 (.bin .add (.c (.int .i64 1)) (.t 14)),oP 16 (.build [i0,i0] [(0,(1,.t 12)),(1,(1,.t 15))]),nP (.sto 2 (.t 2) (.t 16))] .ret) (.seq (sR [oP 18 (.bin .eql (.t 4) (.c (.int .i64 4))),mV 17 18] (.cond (.t 17) .skip (sR [oP 19 (.bin .eql (.t 4) (.c (.int .i64 5))),mV 17 19] (.cond (.t 17) .skip (.reg [oP 20 (.bin .eql (.t 4) (.c (.int .i64 6))),mV 17 20]))))) (.cond (.t 17) (sR [mV 21 0,oP 22 (.call 18 [.t 21,.c (.int .i64 3)]),oP 23 (.bin .add (.c (.int .i64 4)) (.t 22)),mV 24 0,oP 25 (.call 18 [.t 24,.c (.int .i64 9)]),oP 26 (.bin .add (.c (.int .i64 1)) (.t 25)),oP 27 (.build [i0,i0] [(0,(1,.t 23)),(1,(1,.t 26))]),nP (.sto 2 (.t 2) (.t 27))] .ret) (.seq (sR [oP 29 (.bin .eql (.t 4) (.c (.int .i64 7))),mV 28 29] (.cond (.t 28) .skip (sR [oP 30 (.bin .eql (.t 4) (.c (.int .i64 8))),mV 28 30] (.cond (.t 28) .skip (sR [oP 31 (.bin .eql (.t 4) (.c (.int .i64 9))),mV 28 31] (.cond (.t 28) .skip (.reg [oP 32 (.bin .eql (.t 4) (.c (.int .i64 10))),mV 28 32]))))))) (.cond (.t 28) (sR [mV 33 0,oP 34 (.call 18 [.t 33,.c (.int .i64 8)]),oP 35 (.bin .add (.c (.int .i64 10)) (.t 34)),oP 36 (.build [i0,i0] [(0,(1,.c (.int .i64 9))),(1,(1,.t 35))]),nP (.sto 2 (.t 2) (.t 36))] .ret) .skip)))))))) (sR [mV 37 0,oP 38 (.call 18 [.t 37,.c (.int .i64 12)]),mV 39 0,oP 40 (.call 18 [.t 39,.c (.int .i64 20)]),oP 41 (.build [i0,i0] [(0,(1,.t 38)),(1,(1,.t 40))]),nP (.sto 2 (.t 2) (.t 41))] .ret))
theorem dg61:Dg Tryz.prog 61 Tryz.f61 ic61 [(.cell 2 2 true)]:=⟨Tryz.func61,by kernel_rfl,by kernel_rfl⟩
theorem c61 (code:B) (p:Int) (hc:code.length≤2000) (hp:0≤p∧p≤900000000):FnP Tryz.prog G 61 1 [rdH code p] [.pv 0 0] (rdQ code p 3 endQ):=by
 refine mP dg61 Tryz.ntmps61 ⟨_,_,p,by omega,by omega,rfl,⟨0,0⟩,by simp,by simp,rfl⟩ ?_
 have fin:∀l mm (p' a b:Int),p≤p'∧p'≤p+3→(0≤a∧a≤12)→(0≤b∧b≤20)→getL l 2=.pv 1002 0→getH mm 1002=.var 45 [.int .i64 a,.int .i64 b]→getH mm 0=.var 66 [.sl 1 (code.map byR),.int .i64 p'] →
  retQ [.cell 2 2 true] 1 (rdQ code p 3 endQ) .ret ⟨getL l,getH mm⟩:=fun l mm p' a b h1 h2 h3 h4 h5 h6=>by
  refine retN (.agg [.int .i64 a,.int .i64 b]) [rdH code p'] [] ?_ ⟨p',h1.1,h1.2,rfl,⟨a,b⟩,h2,h3,rfl⟩ ?_ (by simp[argH,getN,rdH]) (by simp only[go_sem,rdH])
  ·simp only[go_sem,h4,h5]
  ·simp only[go_sem,h6,rdH]
 simp only[ic61,go_sem,rdH]
 refine pkN code p 12 4 hc fun k k1 k2=>?_
 simp only[go_sem,rdH]
 with_reducible repeat' (first|rw[i64w (by omega)];try simp only[go_sem]|refine br ?_ ?_<;>intro h e<;>(try simp only[e,go_sem])<;>clear e|refine sd ?_<;>try simp only[go_sem]|fail)
 ·have:=0
  refine pkN code (p+1) 3 11 hc fun a a1 a2=>?_
  simp only[go_sem,rdH]
  have a2:=a2 (by omega)
  with_reducible repeat' (first|rw[i64w (by omega)];try simp only[go_sem]|refine br ?_ ?_<;>intro h e<;>(try simp only[e,go_sem])<;>clear e|refine sd ?_<;>try simp only[go_sem]|fail)
  refine pkN code (p+1+1) 9 14 hc fun b b1 b2=>?_
  simp only[go_sem,rdH]
  have b2:=b2 (by omega)
  with_reducible repeat' (first|rw[i64w (by omega)];try simp only[go_sem]|refine br ?_ ?_<;>intro h e<;>(try simp only[e,go_sem])<;>clear e|refine sd ?_<;>try simp only[go_sem]|fail)
  exact fin _ _ (p+1+1+1) (1+a) (1+b) (by omega) (by omega) (by omega) (by simp only[go_sem]) (by simp only[go_sem]) (by simp only[go_sem])
 ·have:=0
  refine pkN code (p+1) 3 11 hc fun a a1 a2=>?_
  simp only[go_sem,rdH]
  have a2:=a2 (by omega)
  with_reducible repeat' (first|rw[i64w (by omega)];try simp only[go_sem]|refine br ?_ ?_<;>intro h e<;>(try simp only[e,go_sem])<;>clear e|refine sd ?_<;>try simp only[go_sem]|fail)
  refine pkN code (p+1+1) 9 14 hc fun b b1 b2=>?_
  simp only[go_sem,rdH]
  have b2:=b2 (by omega)
  with_reducible repeat' (first|rw[i64w (by omega)];try simp only[go_sem]|refine br ?_ ?_<;>intro h e<;>(try simp only[e,go_sem])<;>clear e|refine sd ?_<;>try simp only[go_sem]|fail)
  exact fin _ _ (p+1+1+1) (1+a) (1+b) (by omega) (by omega) (by omega) (by simp only[go_sem]) (by simp only[go_sem]) (by simp only[go_sem])
 ·have:=0
  refine pkN code (p+1) 3 11 hc fun a a1 a2=>?_
  simp only[go_sem,rdH]
  have a2:=a2 (by omega)
  with_reducible repeat' (first|rw[i64w (by omega)];try simp only[go_sem]|refine br ?_ ?_<;>intro h e<;>(try simp only[e,go_sem])<;>clear e|refine sd ?_<;>try simp only[go_sem]|fail)
  refine pkN code (p+1+1) 9 14 hc fun b b1 b2=>?_
  simp only[go_sem,rdH]
  have b2:=b2 (by omega)
  with_reducible repeat' (first|rw[i64w (by omega)];try simp only[go_sem]|refine br ?_ ?_<;>intro h e<;>(try simp only[e,go_sem])<;>clear e|refine sd ?_<;>try simp only[go_sem]|fail)
  exact fin _ _ (p+1+1+1) (1+a) (1+b) (by omega) (by omega) (by omega) (by simp only[go_sem]) (by simp only[go_sem]) (by simp only[go_sem])
 ·have:=0
  refine pkN code (p+1) 3 11 hc fun a a1 a2=>?_
  simp only[go_sem,rdH]
  have a2:=a2 (by omega)
  with_reducible repeat' (first|rw[i64w (by omega)];try simp only[go_sem]|refine br ?_ ?_<;>intro h e<;>(try simp only[e,go_sem])<;>clear e|refine sd ?_<;>try simp only[go_sem]|fail)
  refine pkN code (p+1+1) 9 14 hc fun b b1 b2=>?_
  simp only[go_sem,rdH]
  have b2:=b2 (by omega)
  with_reducible repeat' (first|rw[i64w (by omega)];try simp only[go_sem]|refine br ?_ ?_<;>intro h e<;>(try simp only[e,go_sem])<;>clear e|refine sd ?_<;>try simp only[go_sem]|fail)
  exact fin _ _ (p+1+1+1) (1+a) (1+b) (by omega) (by omega) (by omega) (by simp only[go_sem]) (by simp only[go_sem]) (by simp only[go_sem])
 ·have:=0
  refine pkN code (p+1) 3 22 hc fun a a1 a2=>?_
  simp only[go_sem,rdH]
  have a2:=a2 (by omega)
  with_reducible repeat' (first|rw[i64w (by omega)];try simp only[go_sem]|refine br ?_ ?_<;>intro h e<;>(try simp only[e,go_sem])<;>clear e|refine sd ?_<;>try simp only[go_sem]|fail)
  refine pkN code (p+1+1) 9 25 hc fun b b1 b2=>?_
  simp only[go_sem,rdH]
  have b2:=b2 (by omega)
  with_reducible repeat' (first|rw[i64w (by omega)];try simp only[go_sem]|refine br ?_ ?_<;>intro h e<;>(try simp only[e,go_sem])<;>clear e|refine sd ?_<;>try simp only[go_sem]|fail)
  exact fin _ _ (p+1+1+1) (4+a) (1+b) (by omega) (by omega) (by omega) (by simp only[go_sem]) (by simp only[go_sem]) (by simp only[go_sem])
 ·have:=0
  refine pkN code (p+1) 3 22 hc fun a a1 a2=>?_
  simp only[go_sem,rdH]
  have a2:=a2 (by omega)
  with_reducible repeat' (first|rw[i64w (by omega)];try simp only[go_sem]|refine br ?_ ?_<;>intro h e<;>(try simp only[e,go_sem])<;>clear e|refine sd ?_<;>try simp only[go_sem]|fail)
  refine pkN code (p+1+1) 9 25 hc fun b b1 b2=>?_
  simp only[go_sem,rdH]
  have b2:=b2 (by omega)
  with_reducible repeat' (first|rw[i64w (by omega)];try simp only[go_sem]|refine br ?_ ?_<;>intro h e<;>(try simp only[e,go_sem])<;>clear e|refine sd ?_<;>try simp only[go_sem]|fail)
  exact fin _ _ (p+1+1+1) (4+a) (1+b) (by omega) (by omega) (by omega) (by simp only[go_sem]) (by simp only[go_sem]) (by simp only[go_sem])
 ·have:=0
  refine pkN code (p+1) 3 22 hc fun a a1 a2=>?_
  simp only[go_sem,rdH]
  have a2:=a2 (by omega)
  with_reducible repeat' (first|rw[i64w (by omega)];try simp only[go_sem]|refine br ?_ ?_<;>intro h e<;>(try simp only[e,go_sem])<;>clear e|refine sd ?_<;>try simp only[go_sem]|fail)
  refine pkN code (p+1+1) 9 25 hc fun b b1 b2=>?_
  simp only[go_sem,rdH]
  have b2:=b2 (by omega)
  with_reducible repeat' (first|rw[i64w (by omega)];try simp only[go_sem]|refine br ?_ ?_<;>intro h e<;>(try simp only[e,go_sem])<;>clear e|refine sd ?_<;>try simp only[go_sem]|fail)
  exact fin _ _ (p+1+1+1) (4+a) (1+b) (by omega) (by omega) (by omega) (by simp only[go_sem]) (by simp only[go_sem]) (by simp only[go_sem])
 ·have:=0
  refine pkN code (p+1) 8 34 hc fun a a1 a2=>?_
  simp only[go_sem,rdH]
  have a2:=a2 (by omega)
  with_reducible repeat' (first|rw[i64w (by omega)];try simp only[go_sem]|refine br ?_ ?_<;>intro h e<;>(try simp only[e,go_sem])<;>clear e|refine sd ?_<;>try simp only[go_sem]|fail)
  exact fin _ _ (p+1+1) (9) (10+a) (by omega) (by omega) (by omega) (by simp only[go_sem]) (by simp only[go_sem]) (by simp only[go_sem])
 ·have:=0
  refine pkN code (p+1) 8 34 hc fun a a1 a2=>?_
  simp only[go_sem,rdH]
  have a2:=a2 (by omega)
  with_reducible repeat' (first|rw[i64w (by omega)];try simp only[go_sem]|refine br ?_ ?_<;>intro h e<;>(try simp only[e,go_sem])<;>clear e|refine sd ?_<;>try simp only[go_sem]|fail)
  exact fin _ _ (p+1+1) (9) (10+a) (by omega) (by omega) (by omega) (by simp only[go_sem]) (by simp only[go_sem]) (by simp only[go_sem])
 ·have:=0
  refine pkN code (p+1) 8 34 hc fun a a1 a2=>?_
  simp only[go_sem,rdH]
  have a2:=a2 (by omega)
  with_reducible repeat' (first|rw[i64w (by omega)];try simp only[go_sem]|refine br ?_ ?_<;>intro h e<;>(try simp only[e,go_sem])<;>clear e|refine sd ?_<;>try simp only[go_sem]|fail)
  exact fin _ _ (p+1+1) (9) (10+a) (by omega) (by omega) (by omega) (by simp only[go_sem]) (by simp only[go_sem]) (by simp only[go_sem])
 ·have:=0
  refine pkN code (p+1) 8 34 hc fun a a1 a2=>?_
  simp only[go_sem,rdH]
  have a2:=a2 (by omega)
  with_reducible repeat' (first|rw[i64w (by omega)];try simp only[go_sem]|refine br ?_ ?_<;>intro h e<;>(try simp only[e,go_sem])<;>clear e|refine sd ?_<;>try simp only[go_sem]|fail)
  exact fin _ _ (p+1+1) (9) (10+a) (by omega) (by omega) (by omega) (by simp only[go_sem]) (by simp only[go_sem]) (by simp only[go_sem])
 ·have:=0
  refine pkN code (p+1) 12 38 hc fun a a1 a2=>?_
  simp only[go_sem,rdH]
  have a2:=a2 (by omega)
  with_reducible repeat' (first|rw[i64w (by omega)];try simp only[go_sem]|refine br ?_ ?_<;>intro h e<;>(try simp only[e,go_sem])<;>clear e|refine sd ?_<;>try simp only[go_sem]|fail)
  refine pkN code (p+1+1) 20 40 hc fun b b1 b2=>?_
  simp only[go_sem,rdH]
  have b2:=b2 (by omega)
  with_reducible repeat' (first|rw[i64w (by omega)];try simp only[go_sem]|refine br ?_ ?_<;>intro h e<;>(try simp only[e,go_sem])<;>clear e|refine sd ?_<;>try simp only[go_sem]|fail)
  exact fin _ _ (p+1+1+1) (a) (b) (by omega) (by omega) (by omega) (by simp only[go_sem]) (by simp only[go_sem]) (by simp only[go_sem])
def ic33:IC:=sR [oP 4 (.mv (.c s0))] (sR [mV 5 1,mV 6 0,mV 7 1,oP 8 (.len (.t 7)),oP 9 (.call 18 [.t 6,.t 8]),oP 10 (.iad 1 (.t 5) (.t 9)),lD 11 1 10,mV 4 11] .ret)
theorem dg33:Dg Tryz.prog 33 Tryz.f33 ic33 [(.t 4)]:=⟨Tryz.func33,by kernel_rfl,by kernel_rfl⟩
theorem c33 (code:B) (p:Int) (xs:List B) (hc:code.length≤2000) (hp:0≤p∧p≤900000000) (hx:1≤xs.length∧xs.length≤1000):FnP Tryz.prog G 33 1 [rdH code p] [.pv 0 0,.sl 1 (xs.map fun x=>[.str x])] (rdQ code p 1 fun r=>∃x,x∈xs∧r=.str x):=by
 obtain⟨x0,hx0⟩:∃x,x∈xs:=⟨xs[0],List.getElem_mem _⟩
 refine mP dg33 Tryz.ntmps33 ⟨_,_,p,by omega,by omega,rfl,x0,hx0,rfl⟩ ?_
 simp only[ic33,go_sem,rdH]
 refine pkN code p xs.length 9 hc fun k k1 k2=>?_
 simp only[go_sem,rdH]
 have k2:=k2 (by omega)
 refine effG (by omega) ?_
 have hk:k.toNat<xs.length:=by omega
 have hg:xs.getD k.toNat default=xs[k.toNat]:=by simp[List.getD,hk]
 simp only[go_sem,hg]
 exact retN (.str xs[k.toNat]) [rdH code (p+1)] [] (by simp only[go_sem]) ⟨p+1,by omega,by omega,rfl,_,List.getElem_mem _,rfl⟩ (by simp only[go_sem,rdH]) (by simp[argH,getN,rdH]) (by simp only[go_sem,rdH])
def ic20:IC:=sR [oP 4 (.mv (.c s0))] (sR [oP 5 (.mv (.c s0))] (.seq (.block 0 (.loop (.seq (sR [mV 6 1,oP 7 (.bin .gtr (.t 6) (.c i0))] (.cond (.t 7) .skip (.exit 0))) (.block 1 (.seq (sR [mV 8 1,oP 9 (.bin .rem (.t 8) (.c (.int .i64 2))),oP 10 (.bin .eql (.t 9) (.c (.int .i64 1)))] (.cond (.t 10) (.reg [mV 11 5,mV 12 0,bN 13 .add 11 12,mV 5 13]) .skip)) (sR [mV 14 0,mV 15 0,bN 16 .add 14 15,mV 0 16] (.reg [mV 17 1,oP 18 (.bin .quo (.t 17) (.c (.int .i64 2))),mV 1 18]))))))) (sR [mV 19 5,mV 4 19] .ret)))
theorem dg20:Dg Tryz.prog 20 Tryz.f20 ic20 [(.t 4)]:=⟨Tryz.func20,by kernel_rfl,by kernel_rfl⟩
theorem c20 (s:B) (n:Nat) (hn:s.length*n≤1000000) (hn2:n≤1000000):FnP Tryz.prog G 20 0 [] [.str s,.int .i64 (n:Int)] (fun r o=>o=[]∧∃t:B,t.length=s.length*n∧r=.str t):=by
 refine mP dg20 Tryz.ntmps20 ⟨_,_,rfl,List.replicate (s.length*n) 0,by simp,rfl⟩ ?_
 simp only[ic20,go_sem]
 refine loopN (fun a:B×Nat×B=>⟨getL [(0,.str a.1),(1,.int .i64 (a.2.1:Int)),(5,.str a.2.2)],getH []⟩) (fun a=>a.2.1) (fun a=>a.2.2.length+a.1.length*a.2.1=s.length*n∧a.2.1≤1000000) (s,n,[]) (leQ []) (by simp;omega) ?_
 intro⟨t,m,u⟩ ⟨h1,h2⟩
 simp only at h1 h2
 simp only[go_sem]
 have e1:(m:Int).tmod 2=((m % 2:Nat):Int):=(Int.ofNat_tmod m 2).symm
 have e2:(m:Int).tdiv 2=((m / 2:Nat):Int):=(Int.ofNat_tdiv m 2).symm
 have hm2:=Nat.div_add_mod m 2
 have hmul:t.length*m=(t.length+t.length)*(m / 2)+t.length*(m % 2):=by
  conv=>lhs;rw[←hm2]
  rw[Nat.mul_add,Nat.add_mul,Nat.mul_left_comm,Nat.two_mul]
 have ht:0<m→t.length≤t.length*m:=fun h=>Nat.le_mul_of_pos_right _ h
 have w1:IntKind.i64.wrap ((m / 2:Nat):Int)=(m / 2:Nat):=i64w (by omega)
 with_reducible repeat' (first|refine br ?_ ?_<;>intro h e<;>(try simp only[e,go_sem,e1,e2,w1])<;>clear e|rw[i64w (by omega)]|refine sd ?_<;>try simp only[go_sem,e1,e2,w1]|fail)
 ·have hb:m % 2=1:=by omega
  rw[hb,Nat.mul_one] at hmul
  exact⟨(t++t,m / 2,u++t),by simp only;omega,⟨by simp only[zA];omega,by simp only;omega⟩,(leQ [])⟩
 ·have hb:m % 2=0:=by omega
  rw[hb,Nat.mul_zero] at hmul
  exact⟨(t++t,m / 2,u),by simp only;omega,⟨by simp only[zA];omega,by simp only;omega⟩,(leQ [])⟩
 ·obtain rfl:m=0:=by omega
  exact retN (.str u) [] [] (by simp only[go_sem]) ⟨rfl,u,by simpa using h1,rfl⟩ (by simp only[go_sem]) (by simp[argH]) (by simp only[go_sem])
def strQ (n:Nat) (r:V):Prop:=∃s:B,s.length≤n∧r=.str s
def bits10:List B:=[[97],[98,99],[64],[64,49],[59],[58,53],[120,49],[64,64],[64,49,58],[55]]
theorem bits10_le:∀x∈bits10,x.length≤3:=by decide
def ic39:IC:=sR [oP 4 (.mv (.c s0))] (sR [oP 5 (.mv (.c s0))] (.seq (sR [mV 8 0,oP 9 (.call 18 [.t 8,.c (.int .i64 7)]),mV 6 9] (.block 0 (.loop (.seq (sR [mV 10 6,oP 11 (.bin .gtr (.t 10) (.c i0))] (.cond (.t 11) .skip (.exit 0))) (.seq (.block 1 (sR [mV 14 0,oP 15 (.bsl 9 1 [.c (.str [97]),.c (.str [98,99]),.c (.str [64]),.c (.str [64,49]),.c (.str [59]),.c (.str [58,53]),.c (.str [120,49]),.c (.str [64,64]),.c (.str [64,49,58]),.c (.str [55])]),oP 16 (.call 33 [.t 14,.t 15]),mV 7 16] (.seq (sR [mV 17 0,oP 18 (.call 18 [.t 17,.c (.int .i64 5)]),oP 19 (.bin .lss (.t 18) (.c (.int .i64 3)))] (.cond (.t 19) (.reg [mV 20 0,oP 21 (.call 61 [.t 20]),oP 22 (.call 37 [.t 21]),oP 23 (.bin .add (.c (.str [64])) (.t 22)),oP 24 (.bin .add (.t 23) (.c (.str [59]))),mV 7 24]) .skip)) (sR [mV 25 5,oP 26 (.lens (.t 25)),mV 27 7,oP 28 (.lens (.t 27)),bN 29 .add 26 28,mV 30 1,bN 31 .leq 29 30] (.cond (.t 31) (.reg [mV 32 5,mV 33 7,bN 34 .add 32 33,mV 5 34]) .skip))))) (.reg [mV 12 6,oP 13 (.bin .sub (.t 12) (.c (.int .i64 1))),mV 6 13])))))) (sR [mV 35 5,mV 4 35] .ret)))
theorem dg39:Dg Tryz.prog 39 Tryz.f39 ic39 [(.t 4)]:=⟨Tryz.func39,by kernel_rfl,by kernel_rfl⟩
theorem c39 (code:B) (p m:Int) (hc:code.length≤2000) (hp:0≤p∧p≤800000000) (hm:0≤m∧m≤40):FnP Tryz.prog G 39 1 [rdH code p] [.pv 0 0,.int .i64 m] (rdQ code p 31 (strQ 40)):=by
 refine mP dg39 Tryz.ntmps39 ⟨_,_,p,by omega,by omega,rfl,[],by simp,rfl⟩ ?_
 simp only[ic39,go_sem,rdH]
 refine pkN code p 7 9 hc fun k k1 k2=>?_
 simp only[go_sem,rdH]
 have k2:=k2 (by omega)
 refine loopN (fun a:B×Int×Int=>⟨getL [(0,.pv 0 0),(1,.int .i64 m),(5,.str a.1),(6,.int .i64 a.2.1)],getH [(0,.var 66 [.sl 1 (code.map byR),.int .i64 a.2.2])]⟩) (fun a=>a.2.1.toNat) (fun a=>(0≤a.2.1∧a.2.1≤6)∧(p≤a.2.2∧a.2.2≤p+1+5*(6 - a.2.1))∧a.1.length≤40) ([],k,p+1) (leQ []) (by simp;omega) ?_
 intro⟨s,n,q⟩ ⟨h1,h2,h3⟩
 simp only at h1 h2 h3
 simp only[go_sem]
 with_reducible repeat' (first|rw[i64w (by omega)];try simp only[go_sem]|refine br ?_ ?_<;>intro h e<;>(try simp only[e,go_sem])<;>clear e|refine sd ?_<;>try simp only[go_sem]|fail)
 ·refine callN (c33 code q bits10 hc (by omega) (by decide)) [0] [1015] true 16 1 (by simp only[go_sem,rdH,bits10,List.mem_singleton];first|done|simp) (by simp only[go_sem,rdH];first|done|simp) (by simp) (by simp) (by simp only[List.mem_singleton];rintro c rfl;exact⟨rfl,by simp⟩) ?_ ?_ ?_
  ·rintro _ _ ⟨q',_,_,rfl,_⟩
   exact⟨by simp,by simp,.inl rfl,fun i hi=>by obtain rfl:i=0:=(by omega);simp[chH,stepOk,rdH]⟩
  ·intro i hi;obtain rfl:i=0:=(by omega);simp only[go_sem]
  rintro _ _ ⟨q',q1,q2,rfl,x,hx,rfl⟩
  have hxl:=bits10_le x hx
  simp only[go_sem,rdH]
  refine pkN code q' 5 18 hc fun j j1 j2=>?_
  simp only[go_sem,rdH]
  with_reducible repeat' (first|rw[i64w (by omega)];try simp only[go_sem]|refine br ?_ ?_<;>intro h e<;>(try simp only[e,go_sem])<;>clear e|refine sd ?_<;>try simp only[go_sem]|fail)
  ·refine callN (c61 code (q'+1) hc (by omega)) [0] [] true 21 1 (by simp only[go_sem,rdH];first|done|simp) (by simp only[go_sem,rdH];first|done|simp) (by simp) (by simp) (by simp) ?_ ?_ ?_
   ·rintro _ _ ⟨q',_,_,rfl,_⟩
    exact⟨by simp,by simp,.inl rfl,fun i hi=>by obtain rfl:i=0:=(by omega);simp[chH,stepOk,rdH]⟩
   ·intro i hi;obtain rfl:i=0:=(by omega);simp only[go_sem]
   rintro _ _ ⟨q3,q4,q5,rfl,e,he1,he2,rfl⟩
   have hte:=text_le (e:=e)
   simp only[go_sem,rdH]
   refine callR (c37 e.a e.p) rfl rfl ?_
   simp only[go_sem]
   clear hx hxl
   generalize e.text=w at *
   refine pureG (by omega) ?_
   simp only[go_sem]
   have hwl:(w++[59]).length=w.length+1:=by simp
   with_reducible repeat' (first|rw[i64w (by omega)];try simp only[go_sem,hwl]|refine br ?_ ?_<;>intro h e<;>(try simp only[e,go_sem,hwl])<;>clear e|refine sd ?_<;>try simp only[go_sem,hwl]|fail)
   ·exact⟨(s++64::(w++[59]),n - 1,q3),by simp only;omega,⟨by simp only;omega,by simp only;omega,by simp only[zA,zC,zN];omega⟩,(leQ [])⟩
   ·exact⟨(s,n - 1,q3),by simp only;omega,⟨by simp only;omega,by simp only;omega,h3⟩,(leQ [])⟩
  ·exact⟨(s++x,n - 1,q'+1),by simp only;omega,⟨by simp only;omega,by simp only;omega,by simp;omega⟩,(leQ [])⟩
  ·exact⟨(s,n - 1,q'+1),by simp only;omega,⟨by simp only;omega,by simp only;omega,h3⟩,(leQ [])⟩
 ·exact retN (.str s) [rdH code q] [] (by simp only[go_sem]) ⟨q,by omega,by omega,rfl,s,h3,rfl⟩ (by simp only[go_sem,rdH]) (by simp[argH,getN,rdH]) (by simp only[go_sem,rdH])
def ic22:IC:=sR [oP 2 (.mv (.c s0))] (sR [mV 4 0,oP 5 (.call 39 [.t 4,.c (.int .i64 30)]),mV 3 5] (.seq (sR [mV 6 0,oP 7 (.call 18 [.t 6,.c (.int .i64 24)])] (.block 0 (sR [oP 9 (.bin .eql (.t 7) (.c i0)),mV 8 9] (.cond (.t 8) (sR [mV 10 3,oP 11 (.bin .add (.t 10) (.c (.str [32]))),mV 2 11] .ret) (sR [oP 13 (.bin .eql (.t 7) (.c (.int .i64 1))),mV 12 13] (.cond (.t 12) (sR [mV 14 0,oP 15 (.call 18 [.t 14,.c (.int .i64 5)]),oP 16 (.bin .add (.c (.int .i64 38)) (.t 15)),oP 17 (.call 20 [.c (.str [97]),.t 16]),mV 2 17] .ret) .skip)))))) (sR [mV 18 3,mV 2 18] .ret)))
theorem dg22:Dg Tryz.prog 22 Tryz.f22 ic22 [(.t 2)]:=⟨Tryz.func22,by kernel_rfl,by kernel_rfl⟩
theorem c22 (code:B) (p:Int) (hc:code.length≤2000) (hp:0≤p∧p≤700000000):FnP Tryz.prog G 22 1 [rdH code p] [.pv 0 0] (rdQ code p 33 (strQ 50)):=by
 refine mP dg22 Tryz.ntmps22 ⟨_,_,p,by omega,by omega,rfl,[],by simp,rfl⟩ ?_
 have fin:∀l mm (q:Int) (s:B),p≤q∧q≤p+33→s.length≤50→getL l 2=.str s→getH mm 0=.var 66 [.sl 1 (code.map byR),.int .i64 q]→retQ [.t 2] 1 (rdQ code p 33 (strQ 50)) .ret ⟨getL l,getH mm⟩:=fun l mm q s h1 h2 h3 h4=>by
  refine retN (.str s) [rdH code q] [] ?_ ⟨q,h1.1,h1.2,rfl,s,h2,rfl⟩ ?_ (by simp[argH,getN,rdH]) (by simp only[go_sem,rdH])
  ·simp only[go_sem,h3]
  ·simp only[go_sem,h4,rdH]
 simp only[ic22,go_sem,rdH]
 refine callN (c39 code p 30 hc (by omega) (by omega)) [0] [] true 5 1 (by simp only[go_sem,rdH];first|done|simp) (by simp only[go_sem,rdH];first|done|simp) (by simp) (by simp) (by simp) ?_ ?_ ?_
 ·rintro _ _ ⟨q',_,_,rfl,_⟩
  exact⟨by simp,by simp,.inl rfl,fun i hi=>by obtain rfl:i=0:=(by omega);simp[chH,stepOk,rdH]⟩
 ·intro i hi;obtain rfl:i=0:=(by omega);simp only[go_sem]
 rintro _ _ ⟨q,q1,q2,rfl,s,hs,rfl⟩
 simp only[go_sem,rdH]
 refine pkN code q 24 7 hc fun k k1 k2=>?_
 simp only[go_sem,rdH]
 have k2:=k2 (by omega)
 with_reducible repeat' (first|rw[i64w (by omega)];try simp only[go_sem]|refine br ?_ ?_<;>intro h e<;>(try simp only[e,go_sem])<;>clear e|refine sd ?_<;>try simp only[go_sem]|fail)
 ·exact fin _ _ (q+1) (s++[32]) (by omega) (by simp;omega) (by simp only[go_sem]) (by simp only[go_sem])
 ·have:=0
  refine pkN code (q+1) 5 15 hc fun j j1 j2=>?_
  simp only[go_sem,rdH]
  have j2:=j2 (by omega)
  obtain⟨n,rfl⟩:=Int.eq_ofNat_of_zero_le j1
  with_reducible repeat' (first|rw[i64w (by omega)];try simp only[go_sem]|refine br ?_ ?_<;>intro h e<;>(try simp only[e,go_sem])<;>clear e|refine sd ?_<;>try simp only[go_sem]|fail)
  refine callN (c20 [97] (38+n) (by simp;omega) (by omega)) [] [] true 17 0 (by simp only[go_sem];first|done|omega|(simp;omega)) trivial (by simp) (by simp) (by simp) ?_ (by intro i hi;omega) ?_
  ·rintro _ _ ⟨rfl,t,ht,rfl⟩
   exact⟨by simp,by simp,.inl rfl,fun i hi=>by omega⟩
  ·rintro _ _ ⟨rfl,t,ht,rfl⟩
   simp only[go_sem]
   exact fin _ _ (q+1+1) t (by omega) (by rw[ht];simp;omega) (by simp only[go_sem]) (by simp only[go_sem])
 ·exact fin _ _ (q+1) s (by omega) (by omega) (by simp only[go_sem]) (by simp only[go_sem])
def bits6:List B:=[[97],[98,99],[64],[120,49],[64,49,58,122],[59]]
theorem bits6_le:∀x∈bits6,x.length≤4:=by decide
def ic21:IC:=sR [oP 4 (.mv (.c s0))] (sR [oP 5 (.mv (.c s0))] (.seq (sR [mV 8 0,oP 9 (.call 18 [.t 8,.c (.int .i64 5)]),oP 10 (.bin .add (.c (.int .i64 1)) (.t 9)),mV 6 10] (.block 0 (.loop (.seq (sR [mV 11 6,oP 12 (.bin .gtr (.t 11) (.c i0))] (.cond (.t 12) .skip (.exit 0))) (.seq (.block 1 (sR [mV 15 0,oP 16 (.bsl 9 1 [.c (.str [97]),.c (.str [98,99]),.c (.str [64]),.c (.str [120,49]),.c (.str [64,49,58,122]),.c (.str [59])]),oP 17 (.call 33 [.t 15,.t 16]),mV 7 17] (.seq (sR [mV 18 0,oP 19 (.call 18 [.t 18,.c (.int .i64 5)])] (.block 2 (.seq (sR [oP 21 (.bin .eql (.t 19) (.c i0)),mV 20 21] (.cond (.t 20) .skip (.reg [oP 22 (.bin .eql (.t 19) (.c (.int .i64 1))),mV 20 22]))) (.cond (.t 20) (.reg [mV 23 0,oP 24 (.call 18 [.t 23,.c (.int .i64 3)]),oP 25 (.bin .add (.c (.int .i64 1)) (.t 24)),mV 26 0,oP 27 (.call 18 [.t 26,.c (.int .i64 4)]),oP 28 (.bin .add (.c (.int .i64 1)) (.t 27)),oP 29 (.build [i0,i0] [(0,(1,.t 25)),(1,(1,.t 28))]),oP 30 (.call 37 [.t 29]),oP 31 (.bin .add (.c (.str [64])) (.t 30)),oP 32 (.bin .add (.t 31) (.c (.str [59]))),mV 7 32]) (sR [oP 34 (.bin .eql (.t 19) (.c (.int .i64 2))),mV 33 34] (.cond (.t 33) (.reg [mV 35 0,oP 36 (.call 18 [.t 35,.c (.int .i64 3)]),oP 37 (.bin .add (.c (.int .i64 4)) (.t 36)),mV 38 0,oP 39 (.call 18 [.t 38,.c (.int .i64 4)]),oP 40 (.bin .add (.c (.int .i64 1)) (.t 39)),oP 41 (.build [i0,i0] [(0,(1,.t 37)),(1,(1,.t 40))]),oP 42 (.call 37 [.t 41]),oP 43 (.bin .add (.c (.str [64])) (.t 42)),oP 44 (.bin .add (.t 43) (.c (.str [59]))),mV 7 44]) (sR [oP 46 (.bin .eql (.t 19) (.c (.int .i64 3))),mV 45 46] (.cond (.t 45) (sR [mV 47 1] (.cond (.t 47) (.reg [mV 48 0,oP 49 (.call 18 [.t 48,.c (.int .i64 4)]),oP 50 (.bin .add (.c (.int .i64 10)) (.t 49)),oP 51 (.build [i0,i0] [(0,(1,.c (.int .i64 9))),(1,(1,.t 50))]),oP 52 (.call 37 [.t 51]),oP 53 (.bin .add (.c (.str [64])) (.t 52)),oP 54 (.bin .add (.t 53) (.c (.str [59]))),mV 7 54]) .skip)) .skip)))))))) (sR [mV 55 5,oP 56 (.lens (.t 55)),mV 57 7,oP 58 (.lens (.t 57)),bN 59 .add 56 58,oP 60 (.bin .lss (.t 59) (.c (.int .i64 24)))] (.cond (.t 60) (.reg [mV 61 5,mV 62 7,bN 63 .add 61 62,mV 5 63]) .skip))))) (.reg [mV 13 6,oP 14 (.bin .sub (.t 13) (.c (.int .i64 1))),mV 6 14])))))) (.seq (sR [mV 64 5,oP 65 (.call 38 [.t 64]),oP 66 (.bin .gtr (.t 65) (.c i0))] (.cond (.t 66) (.reg [mV 67 5,oP 68 (.bin .add (.t 67) (.c (.str [122]))),mV 5 68]) .skip)) (sR [mV 69 5,mV 4 69] .ret))))
theorem dg21:Dg Tryz.prog 21 Tryz.f21 ic21 [(.t 4)]:=⟨Tryz.func21,by kernel_rfl,by kernel_rfl⟩
theorem c21 (code:B) (p:Int) (d:Bool) (hc:code.length≤2000) (hp:0≤p∧p≤600000000):FnP Tryz.prog G 21 1 [rdH code p] [.pv 0 0,.bool d] (rdQ code p 21 (strQ 24)):=by
 refine mP dg21 Tryz.ntmps21 ⟨_,_,p,by omega,by omega,rfl,[],by simp,rfl⟩ ?_
 simp only[ic21,go_sem,rdH]
 refine pkN code p 5 9 hc fun k k1 k2=>?_
 simp only[go_sem,rdH]
 have k2:=k2 (by omega)
 with_reducible repeat' (first|rw[i64w (by omega)];try simp only[go_sem]|refine br ?_ ?_<;>intro h e<;>(try simp only[e,go_sem])<;>clear e|refine sd ?_<;>try simp only[go_sem]|fail)
 refine loopN (fun a:B×Int×Int=>⟨getL [(0,.pv 0 0),(1,.bool d),(5,.str a.1),(6,.int .i64 a.2.1)],getH [(0,.var 66 [.sl 1 (code.map byR),.int .i64 a.2.2])]⟩) (fun a=>a.2.1.toNat) (fun a=>(0≤a.2.1∧a.2.1≤5)∧(p≤a.2.2∧a.2.2≤p+1+4*(5 - a.2.1))∧a.1.length≤23) ([],1+k,p+1) (leQ []) (by simp;omega) ?_
 intro⟨s,n,q⟩ ⟨h1,h2,h3⟩
 simp only at h1 h2 h3
 simp only[go_sem]
 with_reducible repeat' (first|rw[i64w (by omega)];try simp only[go_sem]|refine br ?_ ?_<;>intro h e<;>(try simp only[e,go_sem])<;>clear e|refine sd ?_<;>try simp only[go_sem]|fail)
 ·refine callN (c33 code q bits6 hc (by omega) (by decide)) [0] [1016] true 17 1 (by simp only[go_sem,rdH,bits6,List.mem_singleton];first|done|simp) (by simp only[go_sem,rdH];first|done|simp) (by simp) (by simp) (by simp only[List.mem_singleton];rintro c rfl;exact⟨rfl,by simp⟩) ?_ ?_ ?_
  ·rintro _ _ ⟨q',_,_,rfl,_⟩
   exact⟨by simp,by simp,.inl rfl,fun i hi=>by obtain rfl:i=0:=(by omega);simp[chH,stepOk,rdH]⟩
  ·intro i hi;obtain rfl:i=0:=(by omega);simp only[go_sem]
  rintro _ _ ⟨q',q1,q2,rfl,x,hx,rfl⟩
  have hxl:=bits6_le x hx
  clear hx
  simp only[go_sem,rdH]
  refine pkN code q' 5 19 hc fun j j1 j2=>?_
  simp only[go_sem,rdH]
  have j2:=j2 (by omega)
  cases d
  all_goals
   with_reducible repeat' (first|rw[i64w (by omega)];try simp only[go_sem]|refine br ?_ ?_<;>intro h e<;>(try simp only[e,go_sem])<;>clear e|refine sd ?_<;>try simp only[go_sem]|fail)
  ·have:=0
   refine pkN code (q'+1) 3 24 hc fun a a1 a2=>?_
   simp only[go_sem,rdH]
   have a2:=a2 (by omega)
   with_reducible repeat' (first|rw[i64w (by omega)];try simp only[go_sem]|refine br ?_ ?_<;>intro h e<;>(try simp only[e,go_sem])<;>clear e|refine sd ?_<;>try simp only[go_sem]|fail)
   refine pkN code (q'+1+1) 4 27 hc fun b b1 b2=>?_
   simp only[go_sem,rdH]
   have b2:=b2 (by omega)
   with_reducible repeat' (first|rw[i64w (by omega)];try simp only[go_sem]|refine br ?_ ?_<;>intro h e<;>(try simp only[e,go_sem])<;>clear e|refine sd ?_<;>try simp only[go_sem]|fail)
   refine callR (c37 (1+a) (1+b)) rfl rfl ?_
   simp only[go_sem]
   have hte:=text_le (e:=⟨1+a,1+b⟩)
   generalize E.text ⟨1+a,1+b⟩=w at *
   refine pureG (by omega) ?_
   simp only[go_sem]
   have hwl:(w++[59]).length=w.length+1:=by simp
   with_reducible repeat' (first|rw[i64w (by omega)];try simp only[go_sem,hwl]|refine br ?_ ?_<;>intro h e<;>(try simp only[e,go_sem,hwl])<;>clear e|refine sd ?_<;>try simp only[go_sem,hwl]|fail)
   ·exact⟨(s++64::(w++[59]),n - 1,q'+1+1+1),by simp only;omega,⟨by simp only;omega,by simp only;omega,by simp only[zA,zC,zN];omega⟩,(leQ [])⟩
   ·exact⟨(s,n - 1,q'+1+1+1),by simp only;omega,⟨by simp only;omega,by simp only;omega,h3⟩,(leQ [])⟩
  ·have:=0
   refine pkN code (q'+1) 3 24 hc fun a a1 a2=>?_
   simp only[go_sem,rdH]
   have a2:=a2 (by omega)
   with_reducible repeat' (first|rw[i64w (by omega)];try simp only[go_sem]|refine br ?_ ?_<;>intro h e<;>(try simp only[e,go_sem])<;>clear e|refine sd ?_<;>try simp only[go_sem]|fail)
   refine pkN code (q'+1+1) 4 27 hc fun b b1 b2=>?_
   simp only[go_sem,rdH]
   have b2:=b2 (by omega)
   with_reducible repeat' (first|rw[i64w (by omega)];try simp only[go_sem]|refine br ?_ ?_<;>intro h e<;>(try simp only[e,go_sem])<;>clear e|refine sd ?_<;>try simp only[go_sem]|fail)
   refine callR (c37 (1+a) (1+b)) rfl rfl ?_
   simp only[go_sem]
   have hte:=text_le (e:=⟨1+a,1+b⟩)
   generalize E.text ⟨1+a,1+b⟩=w at *
   refine pureG (by omega) ?_
   simp only[go_sem]
   have hwl:(w++[59]).length=w.length+1:=by simp
   with_reducible repeat' (first|rw[i64w (by omega)];try simp only[go_sem,hwl]|refine br ?_ ?_<;>intro h e<;>(try simp only[e,go_sem,hwl])<;>clear e|refine sd ?_<;>try simp only[go_sem,hwl]|fail)
   ·exact⟨(s++64::(w++[59]),n - 1,q'+1+1+1),by simp only;omega,⟨by simp only;omega,by simp only;omega,by simp only[zA,zC,zN];omega⟩,(leQ [])⟩
   ·exact⟨(s,n - 1,q'+1+1+1),by simp only;omega,⟨by simp only;omega,by simp only;omega,h3⟩,(leQ [])⟩
  ·have:=0
   refine pkN code (q'+1) 3 36 hc fun a a1 a2=>?_
   simp only[go_sem,rdH]
   have a2:=a2 (by omega)
   with_reducible repeat' (first|rw[i64w (by omega)];try simp only[go_sem]|refine br ?_ ?_<;>intro h e<;>(try simp only[e,go_sem])<;>clear e|refine sd ?_<;>try simp only[go_sem]|fail)
   refine pkN code (q'+1+1) 4 39 hc fun b b1 b2=>?_
   simp only[go_sem,rdH]
   have b2:=b2 (by omega)
   with_reducible repeat' (first|rw[i64w (by omega)];try simp only[go_sem]|refine br ?_ ?_<;>intro h e<;>(try simp only[e,go_sem])<;>clear e|refine sd ?_<;>try simp only[go_sem]|fail)
   refine callR (c37 (4+a) (1+b)) rfl rfl ?_
   simp only[go_sem]
   have hte:=text_le (e:=⟨4+a,1+b⟩)
   generalize E.text ⟨4+a,1+b⟩=w at *
   refine pureG (by omega) ?_
   simp only[go_sem]
   have hwl:(w++[59]).length=w.length+1:=by simp
   with_reducible repeat' (first|rw[i64w (by omega)];try simp only[go_sem,hwl]|refine br ?_ ?_<;>intro h e<;>(try simp only[e,go_sem,hwl])<;>clear e|refine sd ?_<;>try simp only[go_sem,hwl]|fail)
   ·exact⟨(s++64::(w++[59]),n - 1,q'+1+1+1),by simp only;omega,⟨by simp only;omega,by simp only;omega,by simp only[zA,zC,zN];omega⟩,(leQ [])⟩
   ·exact⟨(s,n - 1,q'+1+1+1),by simp only;omega,⟨by simp only;omega,by simp only;omega,h3⟩,(leQ [])⟩
  ·exact⟨(s++x,n - 1,q'+1),by simp only;omega,⟨by simp only;omega,by simp only;omega,by simp only[zA,zC,zN];omega⟩,(leQ [])⟩
  ·exact⟨(s,n - 1,q'+1),by simp only;omega,⟨by simp only;omega,by simp only;omega,h3⟩,(leQ [])⟩
  ·exact⟨(s++x,n - 1,q'+1),by simp only;omega,⟨by simp only;omega,by simp only;omega,by simp only[zA,zC,zN];omega⟩,(leQ [])⟩
  ·exact⟨(s,n - 1,q'+1),by simp only;omega,⟨by simp only;omega,by simp only;omega,h3⟩,(leQ [])⟩
  ·have:=0
   refine pkN code (q'+1) 3 24 hc fun a a1 a2=>?_
   simp only[go_sem,rdH]
   have a2:=a2 (by omega)
   with_reducible repeat' (first|rw[i64w (by omega)];try simp only[go_sem]|refine br ?_ ?_<;>intro h e<;>(try simp only[e,go_sem])<;>clear e|refine sd ?_<;>try simp only[go_sem]|fail)
   refine pkN code (q'+1+1) 4 27 hc fun b b1 b2=>?_
   simp only[go_sem,rdH]
   have b2:=b2 (by omega)
   with_reducible repeat' (first|rw[i64w (by omega)];try simp only[go_sem]|refine br ?_ ?_<;>intro h e<;>(try simp only[e,go_sem])<;>clear e|refine sd ?_<;>try simp only[go_sem]|fail)
   refine callR (c37 (1+a) (1+b)) rfl rfl ?_
   simp only[go_sem]
   have hte:=text_le (e:=⟨1+a,1+b⟩)
   generalize E.text ⟨1+a,1+b⟩=w at *
   refine pureG (by omega) ?_
   simp only[go_sem]
   have hwl:(w++[59]).length=w.length+1:=by simp
   with_reducible repeat' (first|rw[i64w (by omega)];try simp only[go_sem,hwl]|refine br ?_ ?_<;>intro h e<;>(try simp only[e,go_sem,hwl])<;>clear e|refine sd ?_<;>try simp only[go_sem,hwl]|fail)
   ·exact⟨(s++64::(w++[59]),n - 1,q'+1+1+1),by simp only;omega,⟨by simp only;omega,by simp only;omega,by simp only[zA,zC,zN];omega⟩,(leQ [])⟩
   ·exact⟨(s,n - 1,q'+1+1+1),by simp only;omega,⟨by simp only;omega,by simp only;omega,h3⟩,(leQ [])⟩
  ·have:=0
   refine pkN code (q'+1) 3 24 hc fun a a1 a2=>?_
   simp only[go_sem,rdH]
   have a2:=a2 (by omega)
   with_reducible repeat' (first|rw[i64w (by omega)];try simp only[go_sem]|refine br ?_ ?_<;>intro h e<;>(try simp only[e,go_sem])<;>clear e|refine sd ?_<;>try simp only[go_sem]|fail)
   refine pkN code (q'+1+1) 4 27 hc fun b b1 b2=>?_
   simp only[go_sem,rdH]
   have b2:=b2 (by omega)
   with_reducible repeat' (first|rw[i64w (by omega)];try simp only[go_sem]|refine br ?_ ?_<;>intro h e<;>(try simp only[e,go_sem])<;>clear e|refine sd ?_<;>try simp only[go_sem]|fail)
   refine callR (c37 (1+a) (1+b)) rfl rfl ?_
   simp only[go_sem]
   have hte:=text_le (e:=⟨1+a,1+b⟩)
   generalize E.text ⟨1+a,1+b⟩=w at *
   refine pureG (by omega) ?_
   simp only[go_sem]
   have hwl:(w++[59]).length=w.length+1:=by simp
   with_reducible repeat' (first|rw[i64w (by omega)];try simp only[go_sem,hwl]|refine br ?_ ?_<;>intro h e<;>(try simp only[e,go_sem,hwl])<;>clear e|refine sd ?_<;>try simp only[go_sem,hwl]|fail)
   ·exact⟨(s++64::(w++[59]),n - 1,q'+1+1+1),by simp only;omega,⟨by simp only;omega,by simp only;omega,by simp only[zA,zC,zN];omega⟩,(leQ [])⟩
   ·exact⟨(s,n - 1,q'+1+1+1),by simp only;omega,⟨by simp only;omega,by simp only;omega,h3⟩,(leQ [])⟩
  ·have:=0
   refine pkN code (q'+1) 3 36 hc fun a a1 a2=>?_
   simp only[go_sem,rdH]
   have a2:=a2 (by omega)
   with_reducible repeat' (first|rw[i64w (by omega)];try simp only[go_sem]|refine br ?_ ?_<;>intro h e<;>(try simp only[e,go_sem])<;>clear e|refine sd ?_<;>try simp only[go_sem]|fail)
   refine pkN code (q'+1+1) 4 39 hc fun b b1 b2=>?_
   simp only[go_sem,rdH]
   have b2:=b2 (by omega)
   with_reducible repeat' (first|rw[i64w (by omega)];try simp only[go_sem]|refine br ?_ ?_<;>intro h e<;>(try simp only[e,go_sem])<;>clear e|refine sd ?_<;>try simp only[go_sem]|fail)
   refine callR (c37 (4+a) (1+b)) rfl rfl ?_
   simp only[go_sem]
   have hte:=text_le (e:=⟨4+a,1+b⟩)
   generalize E.text ⟨4+a,1+b⟩=w at *
   refine pureG (by omega) ?_
   simp only[go_sem]
   have hwl:(w++[59]).length=w.length+1:=by simp
   with_reducible repeat' (first|rw[i64w (by omega)];try simp only[go_sem,hwl]|refine br ?_ ?_<;>intro h e<;>(try simp only[e,go_sem,hwl])<;>clear e|refine sd ?_<;>try simp only[go_sem,hwl]|fail)
   ·exact⟨(s++64::(w++[59]),n - 1,q'+1+1+1),by simp only;omega,⟨by simp only;omega,by simp only;omega,by simp only[zA,zC,zN];omega⟩,(leQ [])⟩
   ·exact⟨(s,n - 1,q'+1+1+1),by simp only;omega,⟨by simp only;omega,by simp only;omega,h3⟩,(leQ [])⟩
  ·have:=0
   refine pkN code (q'+1) 4 49 hc fun a a1 a2=>?_
   simp only[go_sem,rdH]
   have a2:=a2 (by omega)
   with_reducible repeat' (first|rw[i64w (by omega)];try simp only[go_sem]|refine br ?_ ?_<;>intro h e<;>(try simp only[e,go_sem])<;>clear e|refine sd ?_<;>try simp only[go_sem]|fail)
   refine callR (c37 9 (10+a)) rfl rfl ?_
   simp only[go_sem]
   have hte:=text_le (e:=⟨9,10+a⟩)
   generalize E.text ⟨9,10+a⟩=w at *
   refine pureG (by omega) ?_
   simp only[go_sem]
   have hwl:(w++[59]).length=w.length+1:=by simp
   with_reducible repeat' (first|rw[i64w (by omega)];try simp only[go_sem,hwl]|refine br ?_ ?_<;>intro h e<;>(try simp only[e,go_sem,hwl])<;>clear e|refine sd ?_<;>try simp only[go_sem,hwl]|fail)
   ·exact⟨(s++64::(w++[59]),n - 1,q'+1+1),by simp only;omega,⟨by simp only;omega,by simp only;omega,by simp only[zA,zC,zN];omega⟩,(leQ [])⟩
   ·exact⟨(s,n - 1,q'+1+1),by simp only;omega,⟨by simp only;omega,by simp only;omega,h3⟩,(leQ [])⟩
  ·exact⟨(s++x,n - 1,q'+1),by simp only;omega,⟨by simp only;omega,by simp only;omega,by simp only[zA,zC,zN];omega⟩,(leQ [])⟩
  ·exact⟨(s,n - 1,q'+1),by simp only;omega,⟨by simp only;omega,by simp only;omega,h3⟩,(leQ [])⟩
 with_reducible repeat' (first|rw[i64w (by omega)];try simp only[go_sem]|refine br ?_ ?_<;>intro h e<;>(try simp only[e,go_sem])<;>clear e|refine sd ?_<;>try simp only[go_sem]|(first|refine cr (c38 ..) ?_)<;>try simp only[go_sem]|fail)
 ·exact retN (.str (s++[122])) [rdH code q] [] (by simp only[go_sem]) ⟨q,by omega,by omega,rfl,_,by simp;omega,rfl⟩ (by simp only[go_sem,rdH]) (by simp[argH,getN,rdH]) (by simp only[go_sem,rdH])
 ·exact retN (.str s) [rdH code q] [] (by simp only[go_sem]) ⟨q,by omega,by omega,rfl,s,by omega,rfl⟩ (by simp only[go_sem,rdH]) (by simp[argH,getN,rdH]) (by simp only[go_sem,rdH])
def ic17:IC:=sR [oP 2 (.mv (.c .nilp))] (.seq (sR [mV 3 0,oP 4 (.len (.t 3)),oP 5 (.bin .gtr (.t 4) (.c (.int .i64 2000)))] (.cond (.t 5) (.reg [mV 6 0,oP 7 (.slv 1 (.t 6) none (some (.c (.int .i64 2000)))),mV 0 7]) .skip)) (sR [mV 8 0,oP 9 (.build [.nils,i0] [(0,(1,.t 8))]),oP 10 (.box 66 (.t 9)),mV 2 10] .ret))
theorem dg17:Dg Tryz.prog 17 Tryz.f17 ic17 [(.t 2)]:=⟨Tryz.func17,by kernel_rfl,by kernel_rfl⟩
theorem c17 (code:B) (hc:code.length≤2000000):FnP Tryz.prog G 17 0 [] [.sl 1 (code.map byR)] (fun r o=>r=.pv 0 0∧o=[rdH (code.take 2000) 0]):=by
 refine mP dg17 Tryz.ntmps17 ⟨_,_,rfl,rfl⟩ ?_
 simp only[ic17,go_sem]
 with_reducible repeat' (first|refine br ?_ ?_<;>intro h e<;>(try simp only[e,go_sem])<;>clear e|rw[i64w (by omega)]|refine sd ?_<;>try simp only[go_sem]|fail)
 ·refine retN (.pv 0 0) [rdH (code.take 2000) 0] [(0,1010)] (by simp only[go_sem,rdH];first|done|simp) ⟨rfl,rfl⟩ ?_ (by simp[argH,getN,rdH]) (by simp only[go_sem])
  simp only[go_sem,rdH]
 ·refine retN (.pv 0 0) [rdH (code.take 2000) 0] [(0,1010)] (by simp only[go_sem,rdH];first|done|simp) ⟨rfl,rfl⟩ ?_ (by simp[argH,getN,rdH]) (by simp only[go_sem])
  have:code.take 2000=code:=List.take_of_length_le (by omega)
  simp only[go_sem,rdH,this]
def ic215:IC:=sR [oP 6 (.mv (.c s0)),oP 7 (.mv (.c (.bool false)))] (sR [mV 9 0,oP 10 (.lens (.t 9)),mV 8 10] (.seq (sR [mV 11 1,mV 12 8,bN 13 .gtr 11 12,mV 14 13,⟨some 15,some (14,false),.mv (.t 1)⟩,⟨some 16,some (14,false),.mv (.t 2)⟩,⟨some 17,some (14,false),.lens (.t 16)⟩,⟨some 18,some (14,false),.bin .add (.t 15) (.t 17)⟩,⟨some 19,some (14,false),.bin .gtr (.t 18) (.c (.int .i64 40))⟩,oP 20 (.pick (.t 14) (.c (.bool true)) (.t 19))] (.cond (.t 20) (sR [mV 21 0,mV 6 21,oP 7 (.mv (.c (.bool false)))] .ret) .skip)) (.seq (sR [mV 22 1,mV 23 2,oP 24 (.lens (.t 23)),bN 25 .add 22 24,mV 26 8,bN 27 .leq 25 26] (.cond (.t 27) (sR [mV 28 0,mV 6 28,oP 7 (.mv (.c (.bool true)))] .ret) .skip)) (sR [mV 29 0,mV 30 2,mV 31 8,mV 32 1,bN 33 .sub 31 32,oP 34 (.sls (.t 30) (some (.t 33)) none),bN 35 .add 29 34,mV 6 35,oP 7 (.mv (.c (.bool true)))] .ret))))
theorem dg215:Dg Tryz.prog 215 Tryz.f215 ic215 [(.t 6),(.t 7)]:=⟨Tryz.func215,by kernel_rfl,by kernel_rfl⟩
theorem c215 (came:B) (n:Int) (text:B) (hn:0≤n∧n≤1000) (hc:came.length≤1000) (ht:text.length≤1000):FnR Tryz.prog G 215 [.str came,.int .i64 n,.str text] (.tup [.str (behind came n text).1,.bool (behind came n text).2]):=by
 refine mF dg215 Tryz.ntmps215 ?_
 simp only[ic215,go_sem]
 with_reducible repeat' (first|rw[i64w (by omega)];try simp only[go_sem]|refine br ?_ ?_<;>intro h e<;>(try simp only[e,go_sem])<;>clear e|refine sd ?_<;>try simp only[go_sem]|fail)
 ·have:behind came n text=(came,false):=by
   unfold behind;rw[if_pos (by simp;omega)]
  rw[this];exact⟨rfl,rfl⟩
 ·have:behind came n text=(came,false):=by
   unfold behind;rw[if_pos (by simp;omega)]
  rw[this];exact⟨rfl,rfl⟩
 ·have:behind came n text=(came,true):=by
   unfold behind;rw[if_neg (by simp;omega),if_pos (by omega)]
  rw[this];exact⟨rfl,rfl⟩
 ·refine pureG (by simp;omega) ?_
  simp only[go_sem]
  have:behind came n text=(came++text.drop (came.length - n).toNat,true):=by
   unfold behind;rw[if_neg (by simp;omega),if_neg (by omega)]
  rw[this,List.take_length];exact⟨rfl,rfl⟩
def ic96:IC:=sR [oP 2 (.mv (.c (.bool false)))] (sR [mV 3 0,oP 4 (.call 109 [.t 3]),mV 5 4,⟨some 6,some (5,true),.mv (.t 0)⟩,⟨some 7,some (5,true),.lens (.t 6)⟩,⟨some 8,some (5,true),.bin .leq (.t 7) (.c (.int .i64 24))⟩,oP 9 (.pick (.t 5) (.t 8) (.c (.bool false))),mV 10 9,⟨some 11,some (10,true),.mv (.t 0)⟩,⟨some 12,some (10,true),.call 38 [.t 11]⟩,⟨some 13,some (10,true),.bin .eql (.t 12) (.c i0)⟩,oP 14 (.pick (.t 10) (.t 13) (.c (.bool false))),mV 2 14] .ret)
theorem dg96:Dg Tryz.prog 96 Tryz.f96 ic96 [(.t 2)]:=⟨Tryz.func96,by kernel_rfl,by kernel_rfl⟩
theorem c96 (t:B) (hl:t.length≤2000000):FnR Tryz.prog G 96 [.str t] (.bool (saying t)):=by
 refine mF dg96 Tryz.ntmps96 ?_
 simp only[ic96,go_sem]
 have c1:=c109 t hl
 have c2:=c38 t hl
 with_reducible repeat' (first|refine br ?_ ?_<;>intro h e<;>(try simp only[e,go_sem])<;>clear e|rw[i64w (by omega)]|refine sd ?_<;>try simp only[go_sem]|(first|refine cr (c1 ..) ?_|refine cr (c2 ..) ?_)<;>try simp only[go_sem]|fail)
 all_goals simp_all[saying]
 all_goals omega
def ic97:IC:=sR [oP 2 (.mv (.c (.bool false)))] (sR [mV 5 0,oP 6 (.call 139 [.t 5]),mV 3 6] (.seq (sR [oP 4 (.mv (.c i0))] (.block 0 (.loop (.seq (sR [mV 7 4,mV 8 3,oP 9 (.len (.t 8)),bN 10 .lss 7 9] (.cond (.t 10) .skip (.exit 0))) (.seq (.block 1 (sR [mV 13 3,mV 14 4,oP 15 (.iad 2 (.t 13) (.t 14)),lA 16 2 15,oP 17 (.call 110 [.t 16])] (.cond (.t 17) (sR [oP 2 (.mv (.c (.bool false)))] .ret) .skip))) (.reg [mV 11 4,oP 12 (.bin .add (.t 11) (.c (.int .i64 1))),mV 4 12])))))) (sR [oP 2 (.mv (.c (.bool true)))] .ret)))
theorem dg97:Dg Tryz.prog 97 Tryz.f97 ic97 [(.t 2)]:=⟨Tryz.func97,by kernel_rfl,by kernel_rfl⟩
theorem c97 (t:B) (hl:t.length≤2000000):FnR Tryz.prog G 97 [.str t] (.bool (ownT t)):=by
 refine mF dg97 Tryz.ntmps97 ?_
 simp only[ic97,go_sem]
 refine callR (c139 t hl) rfl rfl ?_
 simp only[go_sem]
 have hnl:(textNames t).length≤2000000:=by
  have h1:=textPieces_len t
  have h2:=names_le (textPieces t)
  unfold textNames;omega
 unfold ownT
 generalize textNames t=l at *
 refine loopN (fun i:Nat=>⟨getL [(3,.sl 2 (l.map E.row)),(4,.int .i64 (i:Int))],getH []⟩) (fun i=>l.length - i) (fun i=>i≤l.length∧(l.take i).any E.door=false) 0 (leQ []) ⟨Nat.zero_le _,by simp⟩ ?_
 intro i ⟨hi,ha⟩
 simp only[go_sem]
 by_cases h:(i:Int)<l.length
 ·simp only[eq_true h,go_sem]
  have hil:i<l.length:=by omega
  have hg:l.getD i default=l[i]:=by simp[List.getD,hil]
  refine effG (by omega) ?_
  simp only[hg,go_sem]
  with_reducible repeat' (first|refine br ?_ ?_<;>intro h e<;>(try simp only[e,go_sem,hg])<;>clear e|rw[i64w (by omega)]|refine sd ?_<;>try simp only[go_sem,hg]|(first|refine cr (c110 ..) ?_)<;>try simp only[go_sem,hg]|fail)
  ·have:l.any E.door=true:=List.any_eq_true.2 ⟨_,List.getElem_mem hil,by assumption⟩
   rw[this];rfl
  ·refine⟨i+1,by omega,⟨by omega, ?_⟩,(leQ [])⟩
   rw[List.take_add_one,zE hil]
   simp only[Option.toList_some,List.any_append,ha,List.any_cons,List.any_nil,Bool.or_false,Bool.false_or]
   assumption
 ·simp only[eq_false h,go_sem]
  have:i=l.length:=by omega
  subst this
  rw[List.take_length] at ha
  rw[ha];rfl
def ic54:IC:=sR [oP 4 (.box 45 (.t 0)),oP 5 (.box 45 (.t 1)),oP 8 (.alloc 47 [i0,i0,i0,i0,s0,s0,i0,i0,s0,s0]),oP 9 (.mv (.c (.bool false)))] (.seq (sR [lA 10 2 4,oP 11 (.call 94 [.t 10]),oP 12 (.un .not (.t 11)),mV 13 12,⟨some 14,some (13,false),.ld 2 true (.t 5)⟩,⟨some 15,some (13,false),.call 95 [.t 14]⟩,⟨some 16,some (13,false),.un .not (.t 15)⟩,oP 17 (.pick (.t 13) (.c (.bool true)) (.t 16)),mV 18 17,⟨some 19,some (18,false),.mv (.t 2)⟩,⟨some 20,some (18,false),.call 96 [.t 19]⟩,⟨some 21,some (18,false),.un .not (.t 20)⟩,oP 22 (.pick (.t 18) (.c (.bool true)) (.t 21)),mV 23 22,⟨some 24,some (23,false),.mv (.t 2)⟩,⟨some 25,some (23,false),.call 97 [.t 24]⟩,⟨some 26,some (23,false),.un .not (.t 25)⟩,oP 27 (.pick (.t 23) (.c (.bool true)) (.t 26)),mV 28 27,⟨some 29,some (28,false),.mv (.t 3)⟩,⟨some 30,some (28,false),.call 96 [.t 29]⟩,⟨some 31,some (28,false),.un .not (.t 30)⟩,oP 32 (.pick (.t 28) (.c (.bool true)) (.t 31))] (.cond (.t 32) (sR [oP 33 (.build [i0,i0,i0,i0,s0,s0,i0,i0,s0,s0] []),nP (.sto 10 (.t 8) (.t 33)),oP 9 (.mv (.c (.bool false)))] .ret) .skip)) (sR [lA 34 2 4,lA 35 2 5,mV 36 2,mV 37 3,oP 38 (.build [i0,i0,i0,i0,s0,s0,i0,i0,s0,s0] [(0,(2,.t 34)),(2,(2,.t 35)),(4,(1,.t 36)),(5,(1,.t 37))]),nP (.sto 10 (.t 8) (.t 38)),oP 9 (.mv (.c (.bool true)))] .ret))
theorem dg54:Dg Tryz.prog 54 Tryz.f54 ic54 [(.cell 8 10 true),(.t 9)]:=⟨Tryz.func54,by kernel_rfl,by kernel_rfl⟩
theorem c54 (i o:E) (up down:B) (h1:up.length≤2000000) (h2:down.length≤2000000):FnR Tryz.prog G 54 [.agg [.int .i64 i.a,.int .i64 i.p],.agg [.int .i64 o.a,.int .i64 o.p],.str up,.str down]
 (.tup [.agg (Conv.row ((convNew i o up down).getD .zero)),.bool (convNew i o up down).isSome]):=by
 refine mF dg54 Tryz.ntmps54 ?_
 simp only[ic54,go_sem]
 have c1:=c96 up h1
 have c2:=c96 down h2
 have c3:=c97 up h1
 with_reducible repeat' (first|refine br ?_ ?_<;>intro h e<;>(try simp only[e,go_sem])<;>clear e|rw[i64w (by omega)]|refine sd ?_<;>try simp only[go_sem]|(first|refine cr (c94 ..) ?_|refine cr (c95 ..) ?_|refine cr (c1 ..) ?_|refine cr (c2 ..) ?_|refine cr (c3 ..) ?_)<;>try simp only[go_sem]|fail)
 all_goals simp_all[convNew,Conv.zero,E.zero]
def ic98:IC:=sR [oP 1 (.box 47 (.t 0)),oP 2 (.mv (.c (.bool false)))] (sR [fD 6 0 1,lA 7 2 6,fD 8 2 1,lA 9 2 8,fD 10 4 1,lD 11 1 10,fD 12 5 1,lD 13 1 12,oP 14 (.call 54 [.t 7,.t 9,.t 11,.t 13]),mV 5 14,eX 15 5 0,eX 16 5 1,oP 3 (.alloc 47 [i0,i0,i0,i0,s0,s0,i0,i0,s0,s0]),nP (.sto 10 (.t 3) (.t 15)),mV 4 16] (sR [mV 17 4,mV 18 17,⟨some 19,some (18,true),.fad 6 (.t 1)⟩,⟨some 20,some (18,true),.ld 1 false (.t 19)⟩,⟨some 21,some (18,true),.fad 4 (.t 1)⟩,⟨some 22,some (18,true),.ld 1 false (.t 21)⟩,⟨some 23,some (18,true),.lens (.t 22)⟩,⟨some 24,some (18,true),.call 100 [.t 20,.c i0,.t 23]⟩,oP 25 (.pick (.t 18) (.t 24) (.c (.bool false))),mV 26 25,⟨some 27,some (26,true),.fad 7 (.t 1)⟩,⟨some 28,some (26,true),.ld 1 false (.t 27)⟩,⟨some 29,some (26,true),.fad 5 (.t 1)⟩,⟨some 30,some (26,true),.ld 1 false (.t 29)⟩,⟨some 31,some (26,true),.lens (.t 30)⟩,⟨some 32,some (26,true),.call 100 [.t 28,.c i0,.t 31]⟩,oP 33 (.pick (.t 26) (.t 32) (.c (.bool false))),mV 34 33,⟨some 35,some (34,true),.fad 8 (.t 1)⟩,⟨some 36,some (34,true),.ld 1 false (.t 35)⟩,⟨some 37,some (34,true),.call 109 [.t 36]⟩,oP 38 (.pick (.t 34) (.t 37) (.c (.bool false))),mV 39 38,⟨some 40,some (39,true),.fad 9 (.t 1)⟩,⟨some 41,some (39,true),.ld 1 false (.t 40)⟩,⟨some 42,some (39,true),.call 109 [.t 41]⟩,oP 43 (.pick (.t 39) (.t 42) (.c (.bool false))),mV 2 43] .ret))
theorem dg98:Dg Tryz.prog 98 Tryz.f98 ic98 [(.t 2)]:=⟨Tryz.func98,by kernel_rfl,by kernel_rfl⟩
theorem c98 (c:Conv) (h1:c.up.length≤2000000) (h2:c.down.length≤2000000) (h3:c.upGot.length≤2000000) (h4:c.downGot.length≤2000000):FnR Tryz.prog G 98 [.agg [.int .i64 c.ins.a,.int .i64 c.ins.p,.int .i64 c.out.a,.int .i64 c.out.p,.str c.up,.str c.down,.int .i64 c.upAck,.int .i64 c.downAck,.str c.upGot,.str c.downGot]] (.bool (convOk c)):=by
 refine mF dg98 Tryz.ntmps98 ?_
 simp only[ic98,go_sem]
 refine callR (c54 c.ins c.out c.up c.down h1 h2) rfl rfl ?_
 simp only[go_sem]
 have c1:=c109 c.upGot h3
 have c2:=c109 c.downGot h4
 with_reducible repeat' (first|refine br ?_ ?_<;>intro h e<;>(try simp only[e,go_sem])<;>clear e|rw[i64w (by omega)]|refine sd ?_<;>try simp only[go_sem]|(first|refine cr (c100 ..) ?_|refine cr (c1 ..) ?_|refine cr (c2 ..) ?_)<;>try simp only[go_sem]|fail)
 all_goals simp_all[convOk]
def ic143:IC:=sR [oP 5 (.box 47 (.t 0)),oP 10 (.alloc 70 [i0,i0,i0,i0,i0,i0,s0]),oP 11 (.mv (.c (.bool false)))] (sR [fD 14 0 5,lA 15 2 14,fD 16 2 5,lA 17 2 16,mV 18 3,oP 19 (.build [i0,i0,i0,i0,i0,i0,s0] [(0,(1,.c (.int .i64 1))),(1,(2,.t 15)),(3,(2,.t 17)),(5,(1,.t 18))]),oP 12 (.alloc 70 [i0,i0,i0,i0,i0,i0,s0]),nP (.sto 7 (.t 12) (.t 19))] (sR [fD 20 4 5,lD 21 1 20,mV 13 21] (.seq (sR [mV 22 1,oP 23 (.un .not (.t 22))] (.cond (.t 23) (sR [fD 24 2 5,lA 25 2 24,fD 26 1 12,nP (.sto 2 (.t 26) (.t 25))] (sR [mV 27 2,oP 28 (.build [i0,i0] [(0,(1,.c (.int .i64 9))),(1,(1,.t 27))]),fD 29 3 12,nP (.sto 2 (.t 29) (.t 28))] (.reg [fD 30 5 5,lD 31 1 30,mV 13 31]))) .skip)) (.seq (sR [mV 32 3,mV 33 13,oP 34 (.lens (.t 33)),oP 35 (.bin .sub (.t 34) (.c (.int .i64 1))),oP 36 (.call 100 [.t 32,.c i0,.t 35]),oP 37 (.un .not (.t 36)),mV 38 37,⟨some 39,some (38,false),.mv (.t 4)⟩,⟨some 40,some (38,false),.bin .lss (.t 39) (.c (.int .i64 1))⟩,oP 41 (.pick (.t 38) (.c (.bool true)) (.t 40)),mV 42 41,⟨some 43,some (42,false),.mv (.t 1)⟩,⟨some 44,some (42,false),.un .not (.t 43)⟩,⟨some 45,some (42,false),.mv (.t 44)⟩,⟨some 46,some (45,true),.fad 3 (.t 12)⟩,⟨some 47,some (45,true),.ld 2 true (.t 46)⟩,⟨some 48,some (45,true),.call 110 [.t 47]⟩,⟨some 49,some (45,true),.un .not (.t 48)⟩,⟨some 50,some (42,false),.pick (.t 45) (.t 49) (.c (.bool false))⟩,oP 51 (.pick (.t 42) (.c (.bool true)) (.t 50))] (.cond (.t 51) (sR [oP 52 (.build [i0,i0,i0,i0,i0,i0,s0] []),nP (.sto 7 (.t 10) (.t 52)),oP 11 (.mv (.c (.bool false)))] .ret) .skip)) (sR [mV 53 13,mV 54 3,mV 55 3,mV 56 4,mV 57 13,oP 58 (.lens (.t 57)),mV 59 3,bN 60 .sub 58 59,oP 61 (.mn (.t 56) (.t 60)),bN 62 .add 55 61,oP 63 (.sls (.t 53) (some (.t 54)) (some (.t 62))),fD 64 6 12,nP (.sto 1 (.t 64) (.t 63))] (sR [lA 65 7 12,nP (.sto 7 (.t 10) (.t 65)),oP 11 (.mv (.c (.bool true)))] .ret))))))
theorem dg143:Dg Tryz.prog 143 Tryz.f143 ic143 [(.cell 10 7 true),(.t 11)]:=⟨Tryz.func143,by kernel_rfl,by kernel_rfl⟩
theorem c143 (c:Conv) (up:Bool) (port n m:Int) (h1:c.up.length≤2000000) (h2:c.down.length≤2000000):FnR Tryz.prog G 143 [.agg [.int .i64 c.ins.a,.int .i64 c.ins.p,.int .i64 c.out.a,.int .i64 c.out.p,.str c.up,.str c.down,.int .i64 c.upAck,.int .i64 c.downAck,.str c.upGot,.str c.downGot],.bool up,.int .i64 port,.int .i64 n,.int .i64 m]
 (.tup [.agg (Pk.row ((say c up port n m).getD .zero)),.bool (say c up port n m).isSome]):=by
 refine mF dg143 Tryz.ntmps143 ?_
 simp only[ic143,go_sem]
 cases up<;>simp only[go_sem]
 ·have hno:=fun h=>say_no (c:=c) (up:=false) (port:=port) (n:=n) (m:=m) h
  have hyes:=fun h1 h2 h3=>say_yes (c:=c) (up:=false) (port:=port) (n:=n) (m:=m) h1 h2 h3
  simp only[cond_false,true_and,Bool.false_eq_true,false_or] at hno hyes
  rw[i64w (by omega)]
  refine callR (c100 n 0 ((c.down.length:Int) - 1)) rfl rfl ?_
  cases hw:within n 0 ((c.down.length:Int) - 1)<;>simp only[go_sem]
  ·rw[hno (.inl hw)];simp[Pk.zero,E.zero]
  have hw2:=M.within_iff.1 hw
  have w1:IntKind.i64.wrap ((c.down.length:Int) - n)=c.down.length - n:=i64w (by omega)
  have w2:1≤m→IntKind.i64.wrap (n+min m ((c.down.length:Int) - n))=n+min m ((c.down.length:Int) - n):=fun _=>i64w (by omega)
  with_reducible repeat' (first|refine br ?_ ?_<;>intro h e<;>(try simp only[e,go_sem,w1])<;>clear e|rw[i64w (by omega)]|refine sd ?_<;>try simp only[go_sem,w1]|(first|refine cr (c110 ..) ?_)<;>try simp only[go_sem,w1]|fail)
  ·rw[hno (.inr (.inl (by assumption)))];simp[Pk.zero,E.zero]
  ·rw[hyes hw (by omega) (by assumption),take_drop_len (by omega) (by omega)]
   simp
  ·rw[hno (.inr (.inr (by assumption)))];simp[Pk.zero,E.zero]
 ·have hno:=fun h=>say_no (c:=c) (up:=true) (port:=port) (n:=n) (m:=m) h
  have hyes:=fun h1 h2 h3=>say_yes (c:=c) (up:=true) (port:=port) (n:=n) (m:=m) h1 h2 h3
  simp only[cond_true,true_or,true_implies,Bool.true_eq_false,false_and,or_false] at hno hyes
  rw[i64w (by omega)]
  refine callR (c100 n 0 ((c.up.length:Int) - 1)) rfl rfl ?_
  cases hw:within n 0 ((c.up.length:Int) - 1)<;>simp only[go_sem]
  ·rw[hno (.inl hw)];simp[Pk.zero,E.zero]
  have hw2:=M.within_iff.1 hw
  have w1:IntKind.i64.wrap ((c.up.length:Int) - n)=c.up.length - n:=i64w (by omega)
  have w2:1≤m→IntKind.i64.wrap (n+min m ((c.up.length:Int) - n))=n+min m ((c.up.length:Int) - n):=fun _=>i64w (by omega)
  with_reducible repeat' (first|refine br ?_ ?_<;>intro h e<;>(try simp only[e,go_sem,w1])<;>clear e|rw[i64w (by omega)]|refine sd ?_<;>try simp only[go_sem,w1]|(first|refine cr (c110 ..) ?_)<;>try simp only[go_sem,w1]|fail)
  ·rw[hno (.inr (by assumption))];simp[Pk.zero,E.zero]
  ·rw[hyes hw (by omega),take_drop_len (by omega) (by omega)]
   simp
def worldA (w:M.World) (r:V) (out:List Hs):Prop:=r=.agg [.own 0 w.convs.length,.own 1 w.door.map.length,.own 2 w.door.flows.length,.own 3 w.nets.length]∧out=[.arr 47 10 (w.convs.map Conv.row),.arr 88 3 (w.door.map.map Pair.row),.arr 181 8 (w.door.flows.map Flw.row),.arr 70 7 (w.nets.map Pk.row)]
theorem worldRet {w:M.World} {l:List (Nat×V)} {mm:List (Nat×Hs)} {d c:Nat} (n0 n1 n2 n3:Nat) (h4:getL l d=.pv c 0)
 (m4:getH mm c=.var 41 [.own n0 w.convs.length,.own n1 w.door.map.length,.own n2 w.door.flows.length,.own n3 w.nets.length])
 (m0:getH mm n0=.arr 47 10 (w.convs.map Conv.row)) (m1:getH mm n1=.arr 88 3 (w.door.map.map Pair.row)) (m2:getH mm n2=.arr 181 8 (w.door.flows.map Flw.row)) (m3:getH mm n3=.arr 70 7 (w.nets.map Pk.row))
 (hne:[n0,n1,n2,n3].Nodup):retQ [.cell d 4 true] 0 (worldA w) .ret ⟨getL l,getH mm⟩:=by
 refine retN (.agg [.own 0 w.convs.length,.own 1 w.door.map.length,.own 2 w.door.flows.length,.own 3 w.nets.length]) [.arr 47 10 (w.convs.map Conv.row),.arr 88 3 (w.door.map.map Pair.row),.arr 181 8 (w.door.flows.map Flw.row),.arr 70 7 (w.nets.map Pk.row)] [(0,n0),(1,n1),(2,n2),(3,n3)] ?_ ⟨rfl,rfl⟩ ?_ (by simpa[argH,getN] using hne) (by simp only[go_sem])
 ·simp only[go_sem,h4,m4]
 ·simp only[go_sem,m0,m1,m2,m3]
theorem opt_b (o:Option Pk):(bif o.isSome then some (o.getD .zero) else none)=o:=by cases o<;>rfl
def ic144:IC:=sR [oP 2 (.box 41 (.t 0)),oP 3 (.box 45 (.t 1)),oP 4 (.mv (.c i0))] (.seq (sR [oP 5 (.mv (.c i0))] (.block 0 (.loop (.seq (sR [mV 6 5,fD 7 1 2,fD 8 0 7,lD 9 1 8,oP 10 (.len (.t 9)),bN 11 .lss 6 10] (.cond (.t 11) .skip (.exit 0))) (.seq (.block 1 (.seq (.drw [0,1,3,0,15,31,63,0,255] [(0,fD 14 1 2),(1,fD 15 0 14),(2,lD 16 1 15),(3,mV 17 5),(4,oP 18 (.iad 3 (.t 16) (.t 17))),(5,fD 19 1 18),(6,lA 20 2 19),(7,lA 21 2 3),(8,oP 22 (.eqs false [.i,.i] (.t 20) (.t 21)))]) (.cond (.t 22) (sR [fD 23 1 2,fD 24 0 23,lD 25 1 24,mV 26 5,oP 27 (.iad 3 (.t 25) (.t 26)),fD 28 0 27,lD 29 1 28,mV 4 29] .ret) .skip))) (.reg [mV 12 5,oP 13 (.bin .add (.t 12) (.c (.int .i64 1))),mV 5 13])))))) (sR [oP 4 (.mv (.c i0))] .ret))
theorem dg144:Dg Tryz.prog 144 Tryz.f144 ic144 [(.t 4)]:=⟨Tryz.func144,by kernel_rfl,by kernel_rfl⟩
theorem c144 (w:M.World) (i:E) (hl:w.door.map.length≤2000000):FnR Tryz.prog G 144 [.agg [.sl 10 (w.convs.map Conv.row),.sl 3 (w.door.map.map Pair.row),.sl 8 (w.door.flows.map Flw.row),.sl 7 (w.nets.map Pk.row)],.agg [.int .i64 i.a,.int .i64 i.p]] (.int .i64 (portOf w.door.map i)):=by
 refine mF dg144 Tryz.ntmps144 ?_
 simp only[ic144,go_sem]
 refine loopN (fun k:Nat=>⟨getL [(2,.pv 1002 0),(3,.pv 1003 0),(5,.int .i64 (k:Int))],getH [(1002,.var 41 [.sl 10 (w.convs.map Conv.row),.sl 3 (w.door.map.map Pair.row),.sl 8 (w.door.flows.map Flw.row),.sl 7 (w.nets.map Pk.row)]),(1003,.var 45 [.int .i64 i.a,.int .i64 i.p])]⟩) (fun k=>w.door.map.length - k)
  (fun k=>k≤w.door.map.length∧portOf w.door.map i=portOf (w.door.map.drop k) i) 0 (leQ []) ⟨Nat.zero_le _,by simp⟩ ?_
 intro k ⟨hk,ha⟩
 simp only[go_sem]
 by_cases h:(k:Int)<w.door.map.length
 ·have hil:k<w.door.map.length:=by omega
  have hg:w.door.map.getD k default=w.door.map[k]:=by simp[List.getD,hil]
  rw[List.drop_eq_getElem_cons hil,portOf_cons] at ha
  simp only[eq_true h,go_sem]
  with_reducible repeat' (first|refine br ?_ ?_<;>intro h e<;>(try simp only[e,go_sem,hg,E.ext_iff'])<;>clear e|rw[i64w (by omega)]|refine sd ?_<;>try simp only[go_sem,hg,E.ext_iff']|fail)
  ·rw[if_pos (by assumption)] at ha
   rw[ha]
  ·rw[if_neg (by assumption)] at ha
   exact⟨k+1,by omega,⟨by omega,ha⟩,(leQ [])⟩
 ·simp only[eq_false h,go_sem]
  have:k=w.door.map.length:=by omega
  subst this
  rw[ha,List.drop_length];rfl
def ic108:IC:=sR [oP 2 (.box 41 (.t 0)),oP 3 (.box 70 (.t 1)),oP 4 (.mv (.c (.bool false)))] (.seq (sR [oP 5 (.mv (.c i0))] (.block 0 (.loop (.seq (sR [mV 6 5,fD 7 0 2,lD 8 1 7,oP 9 (.len (.t 8)),bN 10 .lss 6 9] (.cond (.t 10) .skip (.exit 0))) (.seq (.block 1 (.seq (.drw [0,1,0,7,15,31,0,64,255] [(0,fD 13 0 2),(1,lD 14 1 13),(2,mV 15 5),(3,oP 16 (.iad 10 (.t 14) (.t 15))),(4,fD 17 2 16),(5,lA 18 2 17),(6,fD 19 1 3),(7,lA 20 2 19),(8,oP 21 (.eqs false [.i,.i] (.t 18) (.t 20)))]) (.cond (.t 21) (sR [oP 4 (.mv (.c (.bool false)))] .ret) .skip))) (.reg [mV 11 5,oP 12 (.bin .add (.t 11) (.c (.int .i64 1))),mV 5 12])))))) (sR [lA 22 7 3,oP 23 (.call 60 [.t 22]),mV 24 23,⟨some 25,some (24,true),.fad 1 (.t 3)⟩,⟨some 26,some (24,true),.ld 2 true (.t 25)⟩,⟨some 27,some (24,true),.call 95 [.t 26]⟩,oP 28 (.pick (.t 24) (.t 27) (.c (.bool false))),mV 29 28,⟨some 30,some (29,true),.fad 3 (.t 3)⟩,⟨some 31,some (29,true),.ld 2 true (.t 30)⟩,⟨some 32,some (29,true),.call 110 [.t 31]⟩,oP 33 (.pick (.t 29) (.t 32) (.c (.bool false))),mV 4 33] .ret))
theorem dg108:Dg Tryz.prog 108 Tryz.f108 ic108 [(.t 4)]:=⟨Tryz.func108,by kernel_rfl,by kernel_rfl⟩
theorem c108 (w:M.World) (p:Pk) (hl:w.convs.length≤2000000) (ht:p.text.length≤2000000):FnR Tryz.prog G 108 [.agg [.sl 10 (w.convs.map Conv.row),.sl 3 (w.door.map.map Pair.row),.sl 8 (w.door.flows.map Flw.row),.sl 7 (w.nets.map Pk.row)],.agg [.int .i64 p.kind,.int .i64 p.frm.a,.int .i64 p.frm.p,.int .i64 p.to.a,.int .i64 p.to.p,.int .i64 p.at_,.str p.text]] (.bool (stranger w p)):=by
 refine mF dg108 Tryz.ntmps108 ?_
 simp only[ic108,go_sem]
 refine loopN (fun k:Nat=>⟨getL [(2,.pv 1002 0),(3,.pv 1003 0),(5,.int .i64 (k:Int))],getH [(1002,.var 41 [.sl 10 (w.convs.map Conv.row),.sl 3 (w.door.map.map Pair.row),.sl 8 (w.door.flows.map Flw.row),.sl 7 (w.nets.map Pk.row)]),(1003,.var 70 [.int .i64 p.kind,.int .i64 p.frm.a,.int .i64 p.frm.p,.int .i64 p.to.a,.int .i64 p.to.p,.int .i64 p.at_,.str p.text])]⟩) (fun k=>w.convs.length - k)
  (fun k=>k≤w.convs.length∧(w.convs.take k).any (fun c=>decide (c.out=p.frm))=false) 0 (leQ []) ⟨Nat.zero_le _,by simp⟩ ?_
 intro k ⟨hk,ha⟩
 simp only[go_sem]
 by_cases h:(k:Int)<w.convs.length
 ·have hil:k<w.convs.length:=by omega
  have hg:w.convs.getD k default=w.convs[k]:=by simp[List.getD,hil]
  simp only[eq_true h,go_sem]
  with_reducible repeat' (first|refine br ?_ ?_<;>intro h e<;>(try simp only[e,go_sem,hg,E.ext_iff'])<;>clear e|rw[i64w (by omega)]|refine sd ?_<;>try simp only[go_sem,hg,E.ext_iff']|fail)
  ·have:w.convs.any (fun c=>decide (c.out=p.frm))=true:=List.any_eq_true.2 ⟨_,List.getElem_mem hil,by simpa using(by assumption)⟩
   simp[stranger,this]
  ·refine⟨k+1,by omega,⟨by omega, ?_⟩,(leQ [])⟩
   rw[List.take_add_one,zE hil]
   simp only[Option.toList_some,List.any_append,ha,List.any_cons,List.any_nil,Bool.or_false,Bool.false_or,decide_eq_false_iff_not]
   assumption
 ·simp only[eq_false h,go_sem]
  have:k=w.convs.length:=by omega
  subst this
  rw[List.take_length] at ha
  have c1:=c60 p ht
  with_reducible repeat' (first|refine br ?_ ?_<;>intro h e<;>(try simp only[e,go_sem])<;>clear e|rw[i64w (by omega)]|refine sd ?_<;>try simp only[go_sem]|(first|refine cr (c1 ..) ?_|refine cr (c95 ..) ?_|refine cr (c110 ..) ?_)<;>try simp only[go_sem]|fail)
  all_goals simp_all[stranger,Pk.inward]
theorem say_port (c:Conv) (port n m:Int):say c true port n m=say c true 0 n m:=rfl
def ic105:IC:=sR [oP 2 (.box 41 (.t 0)),oP 3 (.box 83 (.t 1)),oP 4 (.alloc 70 [i0,i0,i0,i0,i0,i0,s0]),oP 5 (.mv (.c (.bool false)))] (.seq (sR [fD 7 1 3,lD 8 1 7,fD 9 0 2,lD 10 1 9,oP 11 (.len (.t 10)),oP 12 (.bin .sub (.t 11) (.c (.int .i64 1))),oP 13 (.call 100 [.t 8,.c i0,.t 12]),oP 14 (.un .not (.t 13))] (.cond (.t 14) (sR [oP 15 (.build [i0,i0,i0,i0,i0,i0,s0] []),nP (.sto 7 (.t 4) (.t 15)),oP 5 (.mv (.c (.bool false)))] .ret) .skip)) (sR [fD 16 0 2,lD 17 1 16,fD 18 1 3,lD 19 1 18,oP 20 (.iad 10 (.t 17) (.t 19)),lA 21 10 20,oP 6 (.alloc 47 [i0,i0,i0,i0,s0,s0,i0,i0,s0,s0]),nP (.sto 10 (.t 6) (.t 21))] (.seq (.drw [0,0,2,6,0,0,32,112,0,256,0,1024,4095,8191,8191,32767,65535] [(0,lA 22 10 6),(1,fD 23 0 3),(2,lD 24 1 23),(3,oP 25 (.bin .eql (.t 24) (.c (.int .i64 1)))),(4,lA 26 4 2),(5,fD 27 0 6),(6,lA 28 2 27),(7,oP 29 (.call 144 [.t 26,.t 28])),(8,fD 30 2 3),(9,lD 31 1 30),(10,fD 32 3 3),(11,lD 33 1 32),(12,oP 34 (.call 143 [.t 22,.t 25,.t 29,.t 31,.t 33])),(13,eX 35 34 0),(14,eX 36 34 1),(15,nP (.sto 7 (.t 4) (.t 35))),(16,mV 5 36)]) .ret)))
theorem dg105:Dg Tryz.prog 105 Tryz.f105 ic105 [(.cell 4 7 true),(.t 5)]:=⟨Tryz.func105,by kernel_rfl,by kernel_rfl⟩
theorem c105 (w:M.World) (e:Ev) (hm:w.door.map.length≤2000000) (hc:w.convs.length≤2000000) (ht:∀c∈w.convs,c.up.length≤2000000∧c.down.length≤2000000):FnR Tryz.prog G 105 [.agg [.sl 10 (w.convs.map Conv.row),.sl 3 (w.door.map.map Pair.row),.sl 8 (w.door.flows.map Flw.row),.sl 7 (w.nets.map Pk.row)],.agg [.int .i64 e.kind,.int .i64 e.a,.int .i64 e.b,.int .i64 e.c,.int .i64 e.pkt.kind,.int .i64 e.pkt.frm.a,.int .i64 e.pkt.frm.p,.int .i64 e.pkt.to.a,.int .i64 e.pkt.to.p,.int .i64 e.pkt.at_,.str e.pkt.text]]
 (.tup [.agg (Pk.row ((sayW w (decide (e.kind=1)) e.a e.b e.c).getD .zero)),.bool (sayW w (decide (e.kind=1)) e.a e.b e.c).isSome]):=by
 refine mF dg105 Tryz.ntmps105 ?_
 simp only[ic105,go_sem]
 generalize hw:within e.a 0 ((w.convs.length:Int) - 1)=b
 have hw2:b=true→0≤e.a∧e.a≤(w.convs.length:Int) - 1:=fun h=>M.within_iff.1 (hw.trans h)
 rw[i64w (by omega)]
 refine callR (c100 e.a 0 ((w.convs.length:Int) - 1)) rfl rfl ?_
 rw[hw]
 cases b<;>simp only[go_sem]
 ·have:sayW w (decide (e.kind=1)) e.a e.b e.c=none:=by simp[sayW,hw]
  rw[this]
  simp[Pk.zero,E.zero]
 have hw2:=hw2 rfl
 have hil:e.a.toNat<w.convs.length:=by omega
 have hg:w.convs.getD e.a.toNat default=w.convs[e.a.toNat]:=by simp[List.getD,hil]
 have hcv:=ht _ (List.getElem_mem hil)
 have hx:sayW w (decide (e.kind=1)) e.a e.b e.c=say w.convs[e.a.toNat] (decide (e.kind=1)) (portOf w.door.map w.convs[e.a.toNat].ins) e.b e.c:=by
  simp only[sayW,hw,if_true,zE hil]
  cases decide (e.kind=1)
  ·rfl
  ·simp only[cond_true];rw[say_port _ (portOf _ _)]
 rw[hx]
 generalize hcc:w.convs[e.a.toNat]=c at *
 have p1:=c144 w c.ins hm
 have p2:=c143 c (decide (e.kind=1)) (portOf w.door.map c.ins) e.b e.c hcv.1 hcv.2
 with_reducible repeat' (first|refine br ?_ ?_<;>intro h e<;>(try simp only[e,go_sem,hg])<;>clear e|rw[i64w (by omega)]|refine sd ?_<;>try simp only[go_sem,hg]|(first|refine cr (p1 ..) ?_|refine cr (p2 ..) ?_)<;>try simp only[go_sem,hg]|fail)
def ic106:IC:=sR [oP 3 (.box 41 (.t 0)),oP 4 (.box 70 (.t 1)),oP 6 (.alloc 41 [.nils,.nils,.nils,.nils])] (.seq (sR [mV 7 2,mV 8 7,⟨some 9,some (8,true),.fad 3 (.t 3)⟩,⟨some 10,some (8,true),.ld 1 false (.t 9)⟩,⟨some 11,some (8,true),.len (.t 10)⟩,⟨some 12,some (8,true),.bin .lss (.t 11) (.c (.int .i64 10))⟩,oP 13 (.pick (.t 8) (.t 12) (.c (.bool false)))] (.cond (.t 13) (.reg [fD 14 3 3,lD 15 1 14,lA 16 7 4,oP 17 (.bsl 70 7 [.t 16]),oP 18 (.app 70 7 (.t 15) (.t 17)),fD 19 3 3,nP (.sto 1 (.t 19) (.t 18))]) .skip)) (sR [lA 20 4 3,nP (.sto 4 (.t 6) (.t 20))] .ret))
theorem dg106:Dg Tryz.prog 106 Tryz.f106 ic106 [(.cell 6 4 true)]:=⟨Tryz.func106,by kernel_rfl,by kernel_rfl⟩
theorem c106 (w:M.World) (p:Pk) (ok:Bool) (hn:w.nets.length≤2000000):FnP Tryz.prog G 106 0 [.arr 47 10 (w.convs.map Conv.row),.arr 88 3 (w.door.map.map Pair.row),.arr 181 8 (w.door.flows.map Flw.row),.arr 70 7 (w.nets.map Pk.row)] [.agg [.own 0 w.convs.length,.own 1 w.door.map.length,.own 2 w.door.flows.length,.own 3 w.nets.length],.agg [.int .i64 p.kind,.int .i64 p.frm.a,.int .i64 p.frm.p,.int .i64 p.to.a,.int .i64 p.to.p,.int .i64 p.at_,.str p.text],.bool ok] (worldA (send w (bif ok then some p else none))):=by
 refine mP dg106 Tryz.ntmps106 ⟨_,_,rfl,rfl⟩ ?_
 simp only[ic106,go_sem]
 have hno:send w none=w:=rfl
 have hfull:¬w.nets.length<10→send w (some p)=w:=fun h=>by simp only[send];rw[if_neg h]
 cases ok<;>simp only[go_sem]
 ·rw[hno]
  exact worldRet (c:=1006) 0 1 2 3 (by simp only[go_sem]) (by simp only[go_sem]) (by simp only[go_sem]) (by simp only[go_sem]) (by simp only[go_sem]) (by simp only[go_sem]) (by decide)
 with_reducible repeat' (first|refine br ?_ ?_<;>intro h e<;>(try simp only[e,go_sem])<;>clear e|rw[i64w (by omega)]|refine sd ?_<;>try simp only[go_sem]|fail)
 ·have hx:send w (some p)={ w with nets:=w.nets++[p] }:=by simp only[send];rw[if_pos (by omega)]
  rw[hx]
  refine worldRet (c:=1006) 0 1 2 1018 (by simp only[go_sem]) (by simp only[go_sem];simp) (by simp only[go_sem]) (by simp only[go_sem]) (by simp only[go_sem]) (by simp only[go_sem];simp[Pk.row]) (by decide)
 ·rw[hfull (by omega)]
  exact worldRet (c:=1006) 0 1 2 3 (by simp only[go_sem]) (by simp only[go_sem]) (by simp only[go_sem]) (by simp only[go_sem]) (by simp only[go_sem]) (by simp only[go_sem]) (by decide)
def putA (m:List Pair) (s:Strm) (n:Int) (t:B) (out:Bool) (r:V) (o:List Hs):Prop :=
 (put m s n t out).1=m∧r=.tup [.own 0 m.length,.agg [.str (put m s n t out).2.1.inn,.sl 2 ((put m s n t out).2.1.parts.map Part.row)],.bool (put m s n t out).2.2]∧o=[.arr 88 3 (m.map Pair.row)]
def putB (m:List Pair) (s:Strm) (n:Int) (t:B) (out:Bool) (r:V) (o:List Hs):Prop :=
 (put m s n t out).2.2=true∧r=.tup [.own 1 (put m s n t out).1.length,.agg [.str (put m s n t out).2.1.inn,.sl 2 ((put m s n t out).2.1.parts.map Part.row)],.bool true]∧o=[.dead,.arr 88 3 ((put m s n t out).1.map Pair.row)]
theorem live_dead:Hs.live .dead=false:=of_eq_true (eq_self _)
theorem mkParts_nil (l:List Pc):mkParts l []=[]:=by cases l<;>rfl
theorem drop_take_i (l:B) (d n:Nat):(l.take ((d:Int)+(n:Int)).toNat).drop d=(l.drop d).take n:=by
 rw[List.drop_take];congr 1;omega
def ic212:IC:=sR [oP 6 (.box 179 (.t 1)),oP 10 (.mv (.c .nils)),oP 11 (.alloc 179 [s0,.nils]),oP 12 (.mv (.c (.bool false)))] (sR [fD 21 0 6,lD 22 1 21,oP 23 (.lens (.t 22)),mV 13 23] (.seq (sR [mV 24 2,mV 25 13,bN 26 .gtr 24 25,mV 27 26,⟨some 28,some (27,false),.mv (.t 2)⟩,⟨some 29,some (27,false),.mv (.t 3)⟩,⟨some 30,some (27,false),.lens (.t 29)⟩,⟨some 31,some (27,false),.bin .add (.t 28) (.t 30)⟩,⟨some 32,some (27,false),.bin .gtr (.t 31) (.c (.int .i64 40))⟩,oP 33 (.pick (.t 27) (.c (.bool true)) (.t 32))] (.cond (.t 33) (.seq (.drw [0,0,1,7,15] [(0,mV 34 0),(1,lA 35 2 6),(2,mV 10 34),(3,nP (.sto 2 (.t 11) (.t 35))),(4,oP 12 (.mv (.c (.bool false))))]) .ret) .skip)) (.seq (sR [mV 36 2,mV 37 3,oP 38 (.lens (.t 37)),bN 39 .add 36 38,mV 40 13,bN 41 .leq 39 40] (.cond (.t 41) (.seq (.drw [0,0,1,7,15] [(0,mV 42 0),(1,lA 43 2 6),(2,mV 10 42),(3,nP (.sto 2 (.t 11) (.t 43))),(4,oP 12 (.mv (.c (.bool true))))]) .ret) .skip)) (.seq (.drw [0,1,0,0,0,24,60,127,255] [(0,fD 44 0 6),(1,lD 45 1 44),(2,mV 46 3),(3,mV 47 13),(4,mV 48 2),(5,bN 49 .sub 47 48),(6,oP 50 (.sls (.t 46) (some (.t 49)) none)),(7,bN 51 .add 45 50),(8,mV 14 51)]) (sR [lA 52 2 6,oP 53 (.call 220 [.t 52]),mV 15 53] (sR [mV 54 14,oP 55 (.call 190 [.t 54]),mV 16 55] (sR [mV 56 14,oP 57 (.bsl 204 2 []),fD 58 1 6,lD 59 1 58,oP 60 (.app 204 2 (.t 57) (.t 59)),oP 61 (.build [s0,.nils] [(0,(1,.t 56)),(1,(1,.t 60))]),oP 17 (.alloc 179 [s0,.nils]),nP (.sto 2 (.t 17) (.t 61))] (.seq (sR [fD 62 1 6,lD 63 1 62,oP 64 (.len (.t 63)),mV 18 64] (.block 0 (.loop (.seq (sR [mV 65 18,mV 66 16,oP 67 (.len (.t 66)),bN 68 .lss 65 67] (.cond (.t 68) .skip (.exit 0))) (.seq (.block 1 (sR [mV 71 14,mV 72 15,mV 73 15,mV 74 16,mV 75 18,oP 76 (.iad 4 (.t 74) (.t 75)),fD 77 0 76,lD 78 1 77,bN 79 .add 73 78,oP 80 (.sls (.t 71) (some (.t 72)) (some (.t 79))),mV 19 80] (sR [oP 20 (.mv (.c s0))] (.seq (sR [mV 81 4] (.cond (.t 81) (.reg [mV 83 0,mV 84 16,mV 85 18,oP 86 (.iad 4 (.t 84) (.t 85)),lA 87 4 86,mV 88 19,oP 89 (.call 221 [.t 83,.t 87,.t 88]),mV 82 89,eX 90 82 0,eX 91 82 1,mV 0 90,mV 20 91]) (.reg [mV 92 0,mV 93 16,mV 94 18,oP 95 (.iad 4 (.t 93) (.t 94)),lA 96 4 95,mV 97 19,oP 98 (.call 222 [.t 92,.t 96,.t 97]),mV 20 98]))) (.seq (.drw [0,1,0,0,12,28,60,0,252,508,1023,2047,4095] [(0,fD 99 1 17),(1,lD 100 1 99),(2,mV 101 16),(3,mV 102 18),(4,oP 103 (.iad 4 (.t 101) (.t 102))),(5,fD 104 0 103),(6,lD 105 1 104),(7,mV 106 20),(8,oP 107 (.build [i0,s0] [(0,(1,.t 105)),(1,(1,.t 106))])),(9,oP 108 (.bsl 204 2 [.t 107])),(10,oP 109 (.app 204 2 (.t 100) (.t 108))),(11,fD 110 1 17),(12,nP (.sto 1 (.t 110) (.t 109)))]) (.reg [mV 111 15,mV 112 16,mV 113 18,oP 114 (.iad 4 (.t 112) (.t 113)),fD 115 0 114,lD 116 1 115,bN 117 .add 111 116,mV 15 117])))))) (.reg [mV 69 18,oP 70 (.bin .add (.t 69) (.c (.int .i64 1))),mV 18 70])))))) (.seq (.drw [0,0,1,7,15] [(0,mV 118 0),(1,lA 119 2 17),(2,mV 10 118),(3,nP (.sto 2 (.t 11) (.t 119))),(4,oP 12 (.mv (.c (.bool true))))]) .ret)))))))))
theorem dg212:Dg Tryz.prog 212 Tryz.f212 ic212 [(.t 10),(.cell 11 2 true),(.t 12)]:=⟨Tryz.func212,by kernel_rfl,by kernel_rfl⟩
theorem put_F (m:List Pair) (s:Strm) (n:Int) (t:B) (out:Bool) (h:(behind s.inn n t).2=false):put m s n t out=(m,s,false):=by simp[put,h]
theorem put_T (m:List Pair) {s:Strm} (n:Int) (t:B) (out:Bool) (hs:strmOk s=true) (h:¬(n>s.inn.length∨n+t.length>40)) (h2:n+t.length≤s.inn.length):put m s n t out=(m,s,true):=by
 have hb:behind s.inn n t=(s.inn,true):=by
  unfold behind;rw[if_neg (by simpa using h),if_pos h2]
 obtain⟨d1,d2⟩:=strmOk_done hs
 have:(pieces s.inn).drop s.parts.length=[]:=by rw[d2,List.drop_length]
 simp[put,hb,this,turned,mkParts]
theorem turned_false:∀(l:List Pc) (m:List Pair) (s:B),(turned m l s false).1=m
 | [],m,s=>rfl
 | p::ps,m,s=>by simp only[turned];rw[turned_false ps];rfl
theorem c212F (m:List Pair) (s:Strm) (n:Int) (t:B) (h:PutOk m s n t):FnP Tryz.prog G 212 1 [.arr 88 3 (m.map Pair.row)] [.own 0 m.length,.agg [.str s.inn,.sl 2 (s.parts.map Part.row)],.int .i64 n,.str t,.bool false] (putA m s n t false):=by
 refine mP dg212 Tryz.ntmps212 ?_ ?_
 ·refine⟨_,_, ?_,rfl,rfl⟩
  cases hb:(behind s.inn n t).2
  ·rw[put_F _ _ _ _ _ hb]
  ·simp[put,hb,turned_false]
 obtain⟨hm,hs,hn,ht⟩:=h
 obtain⟨hp,hml⟩:=mapOk_ports hm
 obtain⟨s1,s2,s3⟩:=strmOk_B hs
 have keep:∀l mm ok,put m s n t false=(m,s,ok)→getL l 10=.own 0 m.length→getL l 11=.pv 1011 0→getL l 12=.bool ok→getH mm 0=.arr 88 3 (m.map Pair.row)→getH mm 1011=.var 179 [.str s.inn,.sl 2 (s.parts.map Part.row)] →
  retQ [.t 10,.cell 11 2 true,.t 12] 1 (putA m s n t false) .ret ⟨getL l,getH mm⟩:=fun l mm ok h1 h2 h3 h4 h5 h6=>by
  refine retN (.tup [.own 0 m.length,.agg [.str (put m s n t false).2.1.inn,.sl 2 ((put m s n t false).2.1.parts.map Part.row)],.bool (put m s n t false).2.2]) [.arr 88 3 (m.map Pair.row)] [] ?_ ⟨by rw[h1],rfl,rfl⟩ ?_ (by simp[argH]) (by simp only[go_sem])
  ·simp only[go_sem,h1,h2,h3,h4,h6]
  ·simp only[go_sem,h5]
 simp only[ic212,go_sem]
 with_reducible repeat' (first|rw[i64w (by omega)];try simp only[go_sem]|refine br ?_ ?_<;>intro h e<;>(try simp only[e,go_sem])<;>clear e|refine sd ?_<;>try simp only[go_sem]|fail)
 ·exact keep _ _ _ (put_F _ _ _ _ _ (by unfold behind;rw[if_pos (by simp;omega)])) (by simp only[go_sem]) (by simp only[go_sem]) (by simp only[go_sem]) (by simp only[go_sem]) (by simp only[go_sem])
 ·exact keep _ _ _ (put_F _ _ _ _ _ (by unfold behind;rw[if_pos (by simp;omega)])) (by simp only[go_sem]) (by simp only[go_sem]) (by simp only[go_sem]) (by simp only[go_sem]) (by simp only[go_sem])
 ·exact keep _ _ _ (put_T _ _ _ _ hs (by omega) (by omega)) (by simp only[go_sem]) (by simp only[go_sem]) (by simp only[go_sem]) (by simp only[go_sem]) (by simp only[go_sem])
 have hb:behind s.inn n t=(s.inn++t.drop (s.inn.length - n).toNat,true):=by
  unfold behind;rw[if_neg (by simp;omega),if_neg (by omega)]
 have hbp:(behind s.inn n t).2=true:=by rw[hb]
 have hfin:∀mm ts d,PutI m s (behind s.inn n t).1 false mm ts (pieces (behind s.inn n t).1).length d→_:=fun mm ts d h=>put_done hbp h
 have h0:=PutI.init (x:=t.drop (s.inn.length - n).toNat) (out:=false) hp hs
 rw[hb] at hfin
 refine pureG (by simp;omega) ?_
 simp only[List.take_length,go_sem]
 generalize hin:s.inn++t.drop (s.inn.length - n).toNat=inn at *
 have hil:inn.length≤80:=by rw[←hin];simp;omega
 have hpl:=pieces_len inn
 with_reducible repeat' (first|rw[i64w (by omega)];try simp only[go_sem]|refine br ?_ ?_<;>intro h e<;>(try simp only[e,go_sem])<;>clear e|refine sd ?_<;>try simp only[go_sem]|fail)
 refine callR (c220 s ⟨s1,s2,s3⟩) rfl rfl ?_
 simp only[go_sem]
 with_reducible repeat' (first|rw[i64w (by omega)];try simp only[go_sem]|refine br ?_ ?_<;>intro h e<;>(try simp only[e,go_sem])<;>clear e|refine sd ?_<;>try simp only[go_sem]|(first|refine cr (c190 ..) ?_)<;>try simp only[go_sem]|fail)
 refine loopN (fun a:List B×Nat×Nat=>⟨getL [(0,.own 0 m.length),(4,.bool false),(11,.pv 1011 0),(14,.str inn),(15,.int .i64 (a.2.2:Int)),(16,.sl 4 ((pieces inn).map Pc.row)),(17,.pv 1017 0),(18,.int .i64 (a.2.1:Int))],
  getH [(0,.arr 88 3 (m.map Pair.row)),(1011,.var 179 [.str [],.nils]),(1017,.var 179 [.str inn,.own 1060 a.2.1]),(1060,.arr 204 2 ((s.parts++mkParts ((pieces inn).drop s.parts.length) a.1).map Part.row))]⟩) (fun a=>(pieces inn).length - a.2.1)
  (fun a=>PutI m s inn false m a.1 a.2.1 a.2.2) ([],s.parts.length,doneP s.parts) ?_ h0 ?_
 ·refine leN [] (by simp only[go_sem];first|done|rfl) ?_ (by simp[getN]) (by simp only[go_sem])
  simp only[go_sem];simp[mkParts_nil]
 intro⟨ts,i,d⟩ hI
 simp only at hI
 simp only[go_sem]
 have hi:=hI.hi
 by_cases h:(i:Int)<(pieces inn).length
 ·obtain⟨hst1,hst2⟩:=hI.step (by omega)
  have hml2:=mkParts_len2 ((pieces inn).drop s.parts.length) ts (by have:=hI.ht;rw[List.length_drop];omega)
  have hml3:(s.parts++mkParts ((pieces inn).drop s.parts.length) ts).length=i:=by rw[zA,hml2];exact hI.ht
  have hma:=mkParts_app ((pieces inn).drop s.parts.length) ts (pieceIn m ((pieces inn).getD i default) ((inn.drop d).take ((pieces inn).getD i default).size)) (by have:=hI.ht;rw[List.length_drop];omega)
  have hgq:((pieces inn).drop s.parts.length).getD ts.length default=(pieces inn).getD i default:=by
   simp only[List.getD_eq_getElem?_getD,List.getElem?_drop,hI.ht]
  rw[hgq] at hma
  have hht:=hI.ht
  simp only[turn,cond_false] at hst2
  obtain⟨q,hq⟩:∃q,(pieces inn).getD i default=q:=⟨_,rfl⟩
  rw[hq] at hst1 hst2 hma
  simp only[eq_true h,go_sem]
  refine effG (by omega) ?_
  simp only[go_sem,hq]
  with_reducible repeat' (first|rw[i64w (by omega)];try simp only[go_sem,hq]|refine br ?_ ?_<;>intro h e<;>(try simp only[e,go_sem,hq])<;>clear e|refine sd ?_<;>try simp only[go_sem,hq]|fail)
  rw[drop_take_i]
  refine callF (c222 m q.size q.named q.e.a q.e.p ((inn.drop d).take q.size) hm) [0] false (by simp only[go_sem];first|done|simp[E.row,Pc.row,Pair.row,Part.row,Flw.row,Pk.row,Conv.row]) (by simp only[List.mem_singleton];rintro c rfl;rfl) rfl (.inr rfl) ?_
  simp only[go_sem,hq]
  with_reducible repeat' (first|rw[i64w (by omega)];try simp only[go_sem,hq]|refine br ?_ ?_<;>intro h e<;>(try simp only[e,go_sem,hq])<;>clear e|refine sd ?_<;>try simp only[go_sem,hq]|fail)
  refine⟨(ts++[pieceIn m q ((inn.drop d).take q.size)],i+1,d+q.size),by simp only;omega,hst2,leN [(1060,1109)] ?_ ?_ (by simp[getN]) (by simp only[go_sem])⟩
  ·simp only[go_sem];simp
  ·simp only[go_sem,hma];simp[Part.row]
 ·simp only[eq_false h,go_sem]
  have:i=(pieces inn).length:=by omega
  subst this
  with_reducible repeat' (first|refine br ?_ ?_<;>intro h e<;>(try simp only[e,go_sem])<;>clear e|rw[i64w (by omega)]|refine sd ?_<;>try simp only[go_sem]|fail)
  have hfin:=hfin m ts d hI
  refine retN (.tup [.own 0 m.length,.agg [.str inn,.sl 2 ((s.parts++mkParts ((pieces inn).drop s.parts.length) ts).map Part.row)],.bool true]) [.arr 88 3 (m.map Pair.row)] [] ?_ ⟨by rw[hfin],by rw[hfin],rfl⟩ ?_ (by simp[argH]) (by simp only[go_sem])
  ·simp only[go_sem]
   have:=hI.ht
   have:=mkParts_len2 ((pieces inn).drop s.parts.length) ts (by rw[List.length_drop];omega)
   first|done|(simp;omega)
  ·simp only[go_sem]
def putAB (m:List Pair) (s:Strm) (n:Int) (t:B) (out:Bool) (r:V) (o:List Hs):Prop:=putA m s n t out r o∨putB m s n t out r o
theorem c212T (m:List Pair) (s:Strm) (n:Int) (t:B) (h:PutOk m s n t):FnP Tryz.prog G 212 1 [.arr 88 3 (m.map Pair.row)] [.own 0 m.length,.agg [.str s.inn,.sl 2 (s.parts.map Part.row)],.int .i64 n,.str t,.bool true] (putAB m s n t true):=by
 refine mP dg212 Tryz.ntmps212 ?_ ?_
 ·cases hb:(behind s.inn n t).2
  ·exact⟨_,_,.inl ⟨by rw[put_F _ _ _ _ _ hb],rfl,rfl⟩⟩
  ·exact⟨_,_,.inr ⟨by simp[put,hb],rfl,rfl⟩⟩
 obtain⟨hm,hs,hn,ht⟩:=h
 obtain⟨hp,hml⟩:=mapOk_ports hm
 obtain⟨s1,s2,s3⟩:=strmOk_B hs
 have keep:∀l mm ok,put m s n t true=(m,s,ok)→getL l 10=.own 0 m.length→getL l 11=.pv 1011 0→getL l 12=.bool ok→getH mm 0=.arr 88 3 (m.map Pair.row)→getH mm 1011=.var 179 [.str s.inn,.sl 2 (s.parts.map Part.row)] →
  retQ [.t 10,.cell 11 2 true,.t 12] 1 (putAB m s n t true) .ret ⟨getL l,getH mm⟩:=fun l mm ok h1 h2 h3 h4 h5 h6=>by
  refine retN (.tup [.own 0 m.length,.agg [.str (put m s n t true).2.1.inn,.sl 2 ((put m s n t true).2.1.parts.map Part.row)],.bool (put m s n t true).2.2]) [.arr 88 3 (m.map Pair.row)] [] ?_ (.inl ⟨by rw[h1],rfl,rfl⟩) ?_ (by simp[argH]) (by simp only[go_sem])
  ·simp only[go_sem,h1,h2,h3,h4,h6]
  ·simp only[go_sem,h5]
 simp only[ic212,go_sem]
 with_reducible repeat' (first|rw[i64w (by omega)];try simp only[go_sem]|refine br ?_ ?_<;>intro h e<;>(try simp only[e,go_sem])<;>clear e|refine sd ?_<;>try simp only[go_sem]|fail)
 ·exact keep _ _ _ (put_F _ _ _ _ _ (by unfold behind;rw[if_pos (by simp;omega)])) (by simp only[go_sem]) (by simp only[go_sem]) (by simp only[go_sem]) (by simp only[go_sem]) (by simp only[go_sem])
 ·exact keep _ _ _ (put_F _ _ _ _ _ (by unfold behind;rw[if_pos (by simp;omega)])) (by simp only[go_sem]) (by simp only[go_sem]) (by simp only[go_sem]) (by simp only[go_sem]) (by simp only[go_sem])
 ·exact keep _ _ _ (put_T _ _ _ _ hs (by omega) (by omega)) (by simp only[go_sem]) (by simp only[go_sem]) (by simp only[go_sem]) (by simp only[go_sem]) (by simp only[go_sem])
 have hb:behind s.inn n t=(s.inn++t.drop (s.inn.length - n).toNat,true):=by
  unfold behind;rw[if_neg (by simp;omega),if_neg (by omega)]
 have hbp:(behind s.inn n t).2=true:=by rw[hb]
 have hfin:∀mm ts d,PutI m s (behind s.inn n t).1 true mm ts (pieces (behind s.inn n t).1).length d→_:=fun mm ts d h=>put_done hbp h
 have h0:=PutI.init (x:=t.drop (s.inn.length - n).toNat) (out:=true) hp hs
 rw[hb] at hfin
 refine pureG (by simp;omega) ?_
 simp only[List.take_length,go_sem]
 generalize hin:s.inn++t.drop (s.inn.length - n).toNat=inn at *
 have hil:inn.length≤80:=by rw[←hin];simp;omega
 have hpl:=pieces_len inn
 with_reducible repeat' (first|rw[i64w (by omega)];try simp only[go_sem]|refine br ?_ ?_<;>intro h e<;>(try simp only[e,go_sem])<;>clear e|refine sd ?_<;>try simp only[go_sem]|fail)
 refine callR (c220 s ⟨s1,s2,s3⟩) rfl rfl ?_
 simp only[go_sem]
 with_reducible repeat' (first|rw[i64w (by omega)];try simp only[go_sem]|refine br ?_ ?_<;>intro h e<;>(try simp only[e,go_sem])<;>clear e|refine sd ?_<;>try simp only[go_sem]|(first|refine cr (c190 ..) ?_)<;>try simp only[go_sem]|fail)
 refine loopN (fun a:List Pair×List B×Nat×Nat=>⟨getL [(0,.own 5000 a.1.length),(4,.bool true),(11,.pv 1011 0),(14,.str inn),(15,.int .i64 (a.2.2.2:Int)),(16,.sl 4 ((pieces inn).map Pc.row)),(17,.pv 1017 0),(18,.int .i64 (a.2.2.1:Int))],
  getH [(0,.dead),(5000,.arr 88 3 (a.1.map Pair.row)),(1011,.var 179 [.str [],.nils]),(1017,.var 179 [.str inn,.own 1060 a.2.2.1]),(1060,.arr 204 2 ((s.parts++mkParts ((pieces inn).drop s.parts.length) a.2.1).map Part.row))]⟩) (fun a=>(pieces inn).length - a.2.2.1)
  (fun a=>PutI m s inn true a.1 a.2.1 a.2.2.1 a.2.2.2) (m,[],s.parts.length,doneP s.parts) ?_ h0 ?_
 ·refine leN' [(5000,0)] (by simp only[go_sem];first|done|rfl) ?_ (by simp[liveN,getN,live_arr,live_var,live_dead]) (by simp only[go_sem])
  simp only[go_sem];simp[mkParts_nil]
 intro⟨mm,ts,i,d⟩ hI
 simp only at hI
 simp only[go_sem]
 have hi:=hI.hi
 by_cases h:(i:Int)<(pieces inn).length
 ·obtain⟨hst1,hst2⟩:=hI.step (by omega)
  have hml2:=mkParts_len2 ((pieces inn).drop s.parts.length) ts (by have:=hI.ht;rw[List.length_drop];omega)
  have hml3:(s.parts++mkParts ((pieces inn).drop s.parts.length) ts).length=i:=by rw[zA,hml2];exact hI.ht
  have hma:=mkParts_app ((pieces inn).drop s.parts.length) ts (pieceOut mm ((pieces inn).getD i default) ((inn.drop d).take ((pieces inn).getD i default).size)).2 (by have:=hI.ht;rw[List.length_drop];omega)
  have hgq:((pieces inn).drop s.parts.length).getD ts.length default=(pieces inn).getD i default:=by
   simp only[List.getD_eq_getElem?_getD,List.getElem?_drop,hI.ht]
  rw[hgq] at hma
  have hht:=hI.ht
  simp only[turn,cond_true] at hst2
  have hmml:=hI.ml
  obtain⟨q,hq⟩:∃q,(pieces inn).getD i default=q:=⟨_,rfl⟩
  rw[hq] at hst1 hst2 hma
  simp only[eq_true h,go_sem]
  refine effG (by omega) ?_
  simp only[go_sem,hq]
  with_reducible repeat' (first|rw[i64w (by omega)];try simp only[go_sem,hq]|refine br ?_ ?_<;>intro h e<;>(try simp only[e,go_sem,hq])<;>clear e|refine sd ?_<;>try simp only[go_sem,hq]|fail)
  rw[drop_take_i]
  refine callU (c221 mm q.size q.named q.e.a q.e.p ((inn.drop d).take q.size) hI.hp (by omega)) [5000] [] 89 1 (by simp only[go_sem];first|done|simp) (by simp only[go_sem];first|done|simp) (by simp) (by simp) (by rintro _ _ ⟨rfl,rfl⟩;simp) (by intro i hi;obtain rfl:i=0:=(by omega);simp only[go_sem]) ?_
  rintro _ _ ⟨rfl,rfl⟩
  simp only[go_sem,hq]
  with_reducible repeat' (first|rw[i64w (by omega)];try simp only[go_sem,hq]|refine br ?_ ?_<;>intro h e<;>(try simp only[e,go_sem,hq])<;>clear e|refine sd ?_<;>try simp only[go_sem,hq]|fail)
  refine⟨((pieceOut mm q ((inn.drop d).take q.size)).1,ts++[(pieceOut mm q ((inn.drop d).take q.size)).2],i+1,d+q.size),by simp only;omega,hst2,leN [(5000,108900),(1060,1109)] ?_ ?_ (by simp[getN]) (by simp only[go_sem])⟩
  ·simp only[go_sem];simp
  ·simp only[go_sem,hma];simp[Part.row]
 ·simp only[eq_false h,go_sem]
  have:i=(pieces inn).length:=by omega
  subst this
  with_reducible repeat' (first|refine br ?_ ?_<;>intro h e<;>(try simp only[e,go_sem])<;>clear e|rw[i64w (by omega)]|refine sd ?_<;>try simp only[go_sem]|fail)
  have hfin:=hfin mm ts d hI
  refine retN (.tup [.own 1 mm.length,.agg [.str inn,.sl 2 ((s.parts++mkParts ((pieces inn).drop s.parts.length) ts).map Part.row)],.bool true]) [.dead,.arr 88 3 (mm.map Pair.row)] [(1,5000)] ?_ (.inr ⟨by rw[hfin],by rw[hfin],by rw[hfin]⟩) ?_ (by simp[argH,getN]) (by simp only[go_sem])
  ·simp only[go_sem]
   have:=hI.ht
   have:=mkParts_len2 ((pieces inn).drop s.parts.length) ts (by rw[List.length_drop];omega)
   first|done|(simp;omega)
  ·simp only[go_sem]
def ic213:IC:=sR [oP 3 (.box 179 (.t 0)),oP 4 (.box 179 (.t 1)),oP 5 (.box 70 (.t 2)),oP 6 (.alloc 70 [i0,i0,i0,i0,i0,i0,s0]),oP 7 (.mv (.c (.bool false)))] (sR [lA 10 2 4,fD 11 5 5,lD 12 1 11,oP 13 (.call 223 [.t 10,.t 12]),mV 8 13] (sR [lA 14 2 4,fD 15 5 5,lD 16 1 15,fD 17 6 5,lD 18 1 17,oP 19 (.lens (.t 18)),bN 20 .add 16 19,fD 21 0 4,lD 22 1 21,oP 23 (.lens (.t 22)),oP 24 (.mn (.t 20) (.t 23)),oP 25 (.call 223 [.t 14,.t 24]),mV 9 25] (.seq (sR [fD 26 0 4,lD 27 1 26,oP 28 (.lens (.t 27)),fD 29 0 3,lD 30 1 29,oP 31 (.lens (.t 30)),bN 32 .gtr 28 31] (.cond (.t 32) (.reg [lA 33 2 4,oP 34 (.call 210 [.t 33]),oP 35 (.lens (.t 34)),mV 9 35]) .skip)) (.seq (sR [mV 36 8,mV 37 9,bN 38 .geq 36 37] (.cond (.t 38) (sR [oP 39 (.build [i0,i0,i0,i0,i0,i0,s0] []),nP (.sto 7 (.t 6) (.t 39)),oP 7 (.mv (.c (.bool false)))] .ret) .skip)) (sR [mV 40 8,fD 41 5 5,nP (.sto 1 (.t 41) (.t 40))] (sR [lA 42 2 4,oP 43 (.call 210 [.t 42]),mV 44 8,mV 45 9,oP 46 (.sls (.t 43) (some (.t 44)) (some (.t 45))),fD 47 6 5,nP (.sto 1 (.t 47) (.t 46))] (.seq (.drw [0,0,2,6,14,1,63] [(0,lA 48 7 5),(1,fD 49 6 5),(2,lD 50 1 49),(3,oP 51 (.lens (.t 50))),(4,oP 52 (.bin .leq (.t 51) (.c (.int .i64 40)))),(5,nP (.sto 7 (.t 6) (.t 48))),(6,mV 7 52)]) .ret)))))))
theorem dg213:Dg Tryz.prog 213 Tryz.f213 ic213 [(.cell 6 7 true),(.t 7)]:=⟨Tryz.func213,by kernel_rfl,by kernel_rfl⟩
theorem c213 (was is:Strm) (p:Pk) (h:StrB is) (hw:was.inn.length≤2000000) (hp : -10000≤p.at_∧p.at_≤9000) (ht:p.text.length≤1000) :
 FnR Tryz.prog G 213 [.agg [.str was.inn,.sl 2 (was.parts.map Part.row)],.agg [.str is.inn,.sl 2 (is.parts.map Part.row)],.agg [.int .i64 p.kind,.int .i64 p.frm.a,.int .i64 p.frm.p,.int .i64 p.to.a,.int .i64 p.to.p,.int .i64 p.at_,.str p.text]]
  (.tup [.agg (Pk.row (sendR was is p).1),.bool (sendR was is p).2]):=by
 refine mF dg213 Tryz.ntmps213 ?_
 have hso:=sOut_len h
 have h1:=forP_le (l:=is.parts) p.at_
 have h2:=toR_le was is p
 have hil:=h.1
 have f1:=c223 is p.at_ h (by omega)
 have f2:=c223 is (min (p.at_+p.text.length) is.inn.length) h (by omega)
 have f3:=c210 is h
 have e1:∀a b,forP is.parts p.at_=a→toR was is p=b→sendR was is p=if a≥b then(.zero,false)
  else({ p with at_:=a,text:=((sOut is).take b.toNat).drop a.toNat },decide ((((sOut is).take b.toNat).drop a.toNat).length≤40)):=fun a b ha hb=>by subst ha;subst hb;rfl
 simp only[ic213,go_sem]
 generalize hfr:forP is.parts p.at_=fr at *
 by_cases hl:was.inn.length<is.inn.length
 ·have hto:toR was is p=(sOut is).length:=by simp[toR,hl]
  have e1:=e1 _ _ rfl hto
  rw[hto] at h2
  generalize hfr2:forP is.parts (min (p.at_+p.text.length) is.inn.length)=fr2 at *
  with_reducible repeat' (first|refine br ?_ ?_<;>intro h e<;>(try simp only[e,go_sem])<;>clear e|rw[i64w (by omega)]|refine sd ?_<;>try simp only[go_sem]|(first|refine cr (f1 ..) ?_|refine cr (f2 ..) ?_|refine cr (f3 ..) ?_)<;>try simp only[go_sem]|fail)
  all_goals first
   | (exfalso;omega)
   | (rw[e1,if_pos (by omega)];simp[Pk.zero,E.zero];done)
   | (rw[e1,if_neg (by omega)];simp;done)
   | (rw[e1,if_neg (by omega)];simp;omega)
 ·have hto:toR was is p=forP is.parts (min (p.at_+p.text.length) is.inn.length):=by simp[toR,hl]
  have e1:=e1 _ _ rfl hto
  rw[hto] at h2
  generalize hfr2:forP is.parts (min (p.at_+p.text.length) is.inn.length)=fr2 at *
  with_reducible repeat' (first|refine br ?_ ?_<;>intro h e<;>(try simp only[e,go_sem])<;>clear e|rw[i64w (by omega)]|refine sd ?_<;>try simp only[go_sem]|(first|refine cr (f1 ..) ?_|refine cr (f2 ..) ?_|refine cr (f3 ..) ?_)<;>try simp only[go_sem]|fail)
  all_goals first
   | (exfalso;omega)
   | (rw[e1,if_pos (by omega)];simp[Pk.zero,E.zero];done)
   | (rw[e1,if_neg (by omega)];simp;done)
   | (rw[e1,if_neg (by omega)];simp;omega)
def z0A (c:Nat):Hs→V
 | .arr _ sz _=>.sl sz []
 | _=>.own c 0
theorem z0V_own (h:Nat→Hs) (c:Nat):z0V h (.own c 0)=z0A c (h c):=by cases hh:h c<;>simp[z0V,z0A,hh]
theorem z0A_arr (c ty sz:Nat) (rows:List (List V)):z0A c (.arr ty sz rows)=.sl sz []:=of_eq_true (eq_self _)
theorem z0V_int (h:Nat→Hs) (k n):z0V h (.int k n)=.int k n:=of_eq_true (eq_self _)
theorem z0V_str (h:Nat→Hs) (s):z0V h (.str s)=.str s:=of_eq_true (eq_self _)
theorem z0N_own (c:Nat):z0N (.own c 0)=[c]:=of_eq_true (eq_self _)
theorem z0N_int (k n):z0N (.int k n)=[]:=of_eq_true (eq_self _)
theorem z0N_str (s):z0N (.str s)=[]:=of_eq_true (eq_self _)
theorem ixI_some {o:Option Nat} (h:0≤ixI o):∃k,o=some k:=by
 cases o with
 | none=>simp[ixI] at h
 | some k=>exact⟨k,rfl⟩
theorem ixI_none {o:Option Nat} (h:ixI o<0):o=none:=ixI_lt.1 h
def openA (d:Door) (i o:E) (r:V) (out:List Hs):Prop :=
 r=.tup [.agg [.own 0 (openR d i o).1.map.length,.own 1 (openR d i o).1.flows.length],.int .i64 (openR d i o).2.1,.bool (openR d i o).2.2]∧out=[.arr 88 3 ((openR d i o).1.map.map Pair.row),.arr 181 8 ((openR d i o).1.flows.map Flw.row)]
def ic208:IC:=sR [oP 3 (.box 38 (.t 0)),oP 4 (.box 45 (.t 1)),oP 5 (.box 45 (.t 2)),oP 6 (.alloc 38 [.nils,.nils]),oP 7 (.mv (.c i0)),oP 8 (.mv (.c (.bool false)))] (sR [fD 13 1 3,lD 14 1 13,lA 15 2 4,lA 16 2 5,oP 17 (.call 172 [.t 14,.t 15,.t 16]),mV 9 17] (.seq (sR [mV 18 9,oP 19 (.bin .geq (.t 18) (.c i0))] (.cond (.t 19) (sR [lA 20 2 3,mV 21 9,nP (.sto 2 (.t 6) (.t 20)),mV 7 21,oP 8 (.mv (.c (.bool true)))] .ret) .skip)) (sR [fD 23 0 3,lD 24 1 23,lA 25 2 4,oP 26 (.call 209 [.t 24,.t 25]),mV 22 26,eX 27 22 0,eX 28 22 1,eX 29 22 2,mV 10 27,mV 11 28,mV 12 29] (.seq (sR [mV 30 12,oP 31 (.un .not (.t 30)),mV 32 31,⟨some 33,some (32,false),.fad 1 (.t 3)⟩,⟨some 34,some (32,false),.ld 1 false (.t 33)⟩,⟨some 35,some (32,false),.len (.t 34)⟩,⟨some 36,some (32,false),.bin .geq (.t 35) (.c (.int .i64 4))⟩,oP 37 (.pick (.t 32) (.c (.bool true)) (.t 36))] (.cond (.t 37) (sR [lA 38 2 3,nP (.sto 2 (.t 6) (.t 38)),oP 7 (.mv (.c i0)),oP 8 (.mv (.c (.bool false)))] .ret) .skip)) (sR [mV 39 10,fD 40 0 3,nP (.sto 1 (.t 40) (.t 39))] (sR [fD 41 1 3,lD 42 1 41,lA 43 2 4,lA 44 2 5,oP 45 (.bsl 204 2 []),oP 46 (.build [s0,.nils] [(1,(1,.t 45))]),oP 47 (.bsl 204 2 []),oP 48 (.build [s0,.nils] [(1,(1,.t 47))]),oP 49 (.build [i0,i0,i0,i0,s0,.nils,s0,.nils] [(0,(2,.t 43)),(2,(2,.t 44)),(4,(2,.t 46)),(6,(2,.t 48))]),oP 50 (.bsl 181 8 [.t 49]),oP 51 (.app 181 8 (.t 42) (.t 50)),fD 52 1 3,nP (.sto 1 (.t 52) (.t 51))] (.seq (.drw [0,0,2,6,14,1,63,127] [(0,lA 53 2 3),(1,fD 54 1 3),(2,lD 55 1 54),(3,oP 56 (.len (.t 55))),(4,oP 57 (.bin .sub (.t 56) (.c (.int .i64 1)))),(5,nP (.sto 2 (.t 6) (.t 53))),(6,mV 7 57),(7,oP 8 (.mv (.c (.bool true))))]) .ret)))))))
theorem dg208:Dg Tryz.prog 208 Tryz.f208 ic208 [(.cell 6 2 true),(.t 7),(.t 8)]:=⟨Tryz.func208,by kernel_rfl,by kernel_rfl⟩
theorem c208 (d:Door) (i o:E) (hm:mapOk d.map=true) (hf:d.flows.length≤3):FnP Tryz.prog G 208 0 [.arr 88 3 (d.map.map Pair.row),.arr 181 8 (d.flows.map Flw.row)]
 [.agg [.own 0 d.map.length,.own 1 d.flows.length],.agg [.int .i64 i.a,.int .i64 i.p],.agg [.int .i64 o.a,.int .i64 o.p]] (openA d i o):=by
 refine mP dg208 Tryz.ntmps208 ⟨_,_,rfl,rfl⟩ ?_
 obtain⟨hp,hml⟩:=mapOk_ports hm
 have keep:∀l mm k ok,openR d i o=(d,k,ok)→getL l 6=.pv 1006 0→getL l 7=.int .i64 (k:Nat)→getL l 8=.bool ok→getH mm 1006=.var 38 [.own 0 d.map.length,.own 1 d.flows.length]→getH mm 0=.arr 88 3 (d.map.map Pair.row)→getH mm 1=.arr 181 8 (d.flows.map Flw.row) →
  retQ [.cell 6 2 true,.t 7,.t 8] 0 (openA d i o) .ret ⟨getL l,getH mm⟩:=fun l mm k ok h1 h2 h3 h4 h5 h6 h7=>by
  refine retN (.tup [.agg [.own 0 d.map.length,.own 1 d.flows.length],.int .i64 (k:Nat),.bool ok]) [.arr 88 3 (d.map.map Pair.row),.arr 181 8 (d.flows.map Flw.row)] [] ?_ ⟨by rw[h1],by rw[h1]⟩ ?_ (by simp[argH,getN]) (by simp only[go_sem])
  ·simp only[go_sem,h2,h3,h4,h5]
  ·simp only[go_sem,h6,h7]
 simp only[ic208,go_sem]
 refine callF (c172 d.flows i o (by omega)) [1] false (by simp only[go_sem];first|done|simp[E.row,Pc.row,Pair.row,Part.row,Flw.row,Pk.row,Conv.row]) (by simp only[List.mem_singleton];rintro c rfl;rfl) rfl (.inr rfl) ?_
 simp only[go_sem]
 with_reducible repeat' (first|refine br ?_ ?_<;>intro h e<;>(try simp only[e,go_sem])<;>clear e|rw[i64w (by omega)]|refine sd ?_<;>try simp only[go_sem]|fail)
 ·obtain⟨k,hk⟩:=ixI_some h
  rw[hk]
  exact keep _ _ k true (openF_has hk) (by simp only[go_sem]) (by simp only[go_sem];rfl) (by simp only[go_sem]) (by simp only[go_sem]) (by simp only[go_sem]) (by simp only[go_sem])
 have hno:=ixI_none (by omega:ixI (flowIx d.flows i o)<0)
 refine callN (c209 d.map i.a i.p hp (by omega)) [0] [] true 26 2 (by simp only[go_sem];first|done|simp) (by simp only[go_sem];first|done|simp) (by simp) (by simp) (by simp) ?_ ?_ ?_
 ·rintro res out (⟨_,rfl,rfl⟩|⟨rfl,rfl,_⟩)
  ·exact⟨by simp,by simp,.inl rfl,fun i hi=>by obtain rfl:i=0:=(by omega);simp[chH,stepOk]⟩
  ·exact⟨by simp,by simp,.inl rfl,fun i hi=>by obtain rfl:i=0:=(by omega);simp[chH,stepOk]⟩
 ·intro i hi
  have:i=0∨i=1:=by omega
  rcases this with rfl|rfl<;>simp only[go_sem]
 ·rintro res out (⟨h1,rfl,rfl⟩|⟨rfl,rfl,h3,_⟩)
  ·simp only[go_sem]
   cases hok:(mOut d.map i).2.2<;>simp only[go_sem]
   ·with_reducible repeat' (first|refine br ?_ ?_<;>intro h e<;>(try simp only[e,go_sem])<;>clear e|rw[i64w (by omega)]|refine sd ?_<;>try simp only[go_sem]|fail)
    exact keep _ _ 0 false (openF_no hno hok) (by simp only[go_sem]) (by simp only[go_sem];first|done|rfl) (by simp only[go_sem]) (by simp only[go_sem]) (by simp only[go_sem]) (by simp only[go_sem])
   ·have hn:=openF_new hno hok (by omega)
    with_reducible repeat' (first|refine br ?_ ?_<;>intro h e<;>(try simp only[e,go_sem])<;>clear e|rw[i64w (by omega)]|refine sd ?_<;>try simp only[go_sem]|fail)
    ·omega
    simp only[Bool.true_and,Bool.false_and,z0V_own,z0A_arr,z0V_int,z0V_str,z0N_own,z0N_int,z0N_str,List.flatMap_cons,List.flatMap_nil,go_sem]
    with_reducible repeat' (first|refine br ?_ ?_<;>intro h e<;>(try simp only[e,go_sem])<;>clear e|rw[i64w (by omega)]|refine sd ?_<;>try simp only[go_sem]|fail)
    refine retN (.tup [.agg [.own 0 d.map.length,.own 1 (d.flows.length+1)],.int .i64 (d.flows.length:Nat),.bool true]) [.arr 88 3 (d.map.map Pair.row),.arr 181 8 ((d.flows++[Flw.mk i o .zero .zero]).map Flw.row)] [(1,1051)] ?_ ⟨by rw[hn,h1];simp,by rw[hn,h1]⟩ ?_ (by simp[argH,getN]) (by simp only[go_sem])
    ·simp only[go_sem];first|done|omega
    ·simp only[go_sem];simp[Flw.row,Strm.zero]
  ·have hn:=openF_new hno h3 (by omega)
   simp only[go_sem,h3]
   with_reducible repeat' (first|refine br ?_ ?_<;>intro h e<;>(try simp only[e,go_sem])<;>clear e|rw[i64w (by omega)]|refine sd ?_<;>try simp only[go_sem]|fail)
   ·omega
   simp only[Bool.true_and,Bool.false_and,z0V_own,z0A_arr,z0V_int,z0V_str,z0N_own,z0N_int,z0N_str,List.flatMap_cons,List.flatMap_nil,go_sem]
   with_reducible repeat' (first|refine br ?_ ?_<;>intro h e<;>(try simp only[e,go_sem])<;>clear e|rw[i64w (by omega)]|refine sd ?_<;>try simp only[go_sem]|fail)
   refine retN (.tup [.agg [.own 0 (mOut d.map i).1.length,.own 1 (d.flows.length+1)],.int .i64 (d.flows.length:Nat),.bool true]) [.arr 88 3 ((mOut d.map i).1.map Pair.row),.arr 181 8 ((d.flows++[Flw.mk i o .zero .zero]).map Flw.row)] [(0,102601),(1,1051)] ?_ ⟨by rw[hn];simp,by rw[hn]⟩ ?_ (by simp[argH,getN]) (by simp only[go_sem])
   ·simp only[go_sem];first|done|omega
   ·simp only[go_sem];simp[Flw.row,Strm.zero]
def doorA (x:Door×Option Pk) (r:V) (out:List Hs):Prop :=
 r=.tup [.agg [.own 0 x.1.map.length,.own 1 x.1.flows.length],.agg (Pk.row (x.2.getD .zero)),.bool x.2.isSome]∧out=[.arr 88 3 (x.1.map.map Pair.row),.arr 181 8 (x.1.flows.map Flw.row)]
theorem doorRet {x:Door×Option Pk} {l:List (Nat×V)} {mm:List (Nat×Hs)} {d:Door} {q:Option Pk} (n0 n1:Nat) (hx:x=(d,q)) (h4:getL l 4=.pv 1004 0) (h5:getL l 5=.pv 1005 0) (h6:getL l 6=.bool q.isSome)
 (m4:getH mm 1004=.var 38 [.own n0 d.map.length,.own n1 d.flows.length]) (m5:getH mm 1005=.var 70 (Pk.row (q.getD .zero))) (m0:getH mm n0=.arr 88 3 (d.map.map Pair.row)) (m1:getH mm n1=.arr 181 8 (d.flows.map Flw.row)) (hne:n0≠n1) :
 retQ [.cell 4 2 true,.cell 5 7 true,.t 6] 0 (doorA x) .ret ⟨getL l,getH mm⟩:=by
 subst hx
 refine retN (.tup [.agg [.own 0 d.map.length,.own 1 d.flows.length],.agg (Pk.row (q.getD .zero)),.bool q.isSome]) [.arr 88 3 (d.map.map Pair.row),.arr 181 8 (d.flows.map Flw.row)] [(0,n0),(1,n1)] ?_ ⟨rfl,rfl⟩ ?_ (by simp[argH,getN,hne]) (by simp only[go_sem])
 ·simp only[go_sem,h4,h5,h6,m4,m5]
 ·simp only[go_sem,m0,m1]
def ic191:IC:=sR [oP 2 (.box 38 (.t 0)),oP 3 (.box 70 (.t 1)),oP 4 (.alloc 38 [.nils,.nils]),oP 5 (.alloc 70 [i0,i0,i0,i0,i0,i0,s0]),oP 6 (.mv (.c (.bool false)))] (sR [lA 18 2 2,fD 19 1 3,lA 20 2 19,fD 21 3 3,lA 22 2 21,oP 23 (.call 208 [.t 18,.t 20,.t 22]),mV 17 23,eX 24 17 0,eX 25 17 1,eX 26 17 2,nP (.sto 2 (.t 2) (.t 24)),mV 7 25,mV 8 26] (.seq (sR [mV 27 8,oP 28 (.un .not (.t 27))] (.cond (.t 28) (sR [lA 29 2 2,oP 30 (.build [i0,i0,i0,i0,i0,i0,s0] []),nP (.sto 2 (.t 4) (.t 29)),nP (.sto 7 (.t 5) (.t 30)),oP 6 (.mv (.c (.bool false)))] .ret) .skip)) (sR [fD 32 0 2,lD 33 1 32,fD 34 1 3,lA 35 2 34,oP 36 (.call 209 [.t 33,.t 35]),mV 31 36,eX 37 31 0,eX 38 31 1,eX 39 31 2,mV 9 37,mV 10 38,mV 11 39] (sR [mV 40 10,oP 41 (.build [i0,i0] [(0,(1,.c (.int .i64 9))),(1,(1,.t 40))]),oP 12 (.alloc 45 [i0,i0]),nP (.sto 2 (.t 12) (.t 41))] (sR [fD 42 1 2,lD 43 1 42,mV 44 7,oP 45 (.iad 8 (.t 43) (.t 44)),lA 46 8 45,oP 13 (.alloc 181 [i0,i0,i0,i0,s0,.nils,s0,.nils]),nP (.sto 8 (.t 13) (.t 46))] (.seq (sR [fD 47 0 3,lD 48 1 47,oP 49 (.bin .eql (.t 48) (.c (.int .i64 2)))] (.cond (.t 49) (.seq (.seq (.drw [0,1,0,4,12,28,63] [(0,fD 50 5 3),(1,lD 51 1 50),(2,fD 52 6 13),(3,lA 53 2 52),(4,oP 54 (.call 210 [.t 53])),(5,oP 55 (.lens (.t 54))),(6,bN 56 .gtr 51 55)]) (.cond (.t 56) (sR [lA 57 2 2,oP 58 (.build [i0,i0,i0,i0,i0,i0,s0] []),nP (.sto 2 (.t 4) (.t 57)),nP (.sto 7 (.t 5) (.t 58)),oP 6 (.mv (.c (.bool false)))] .ret) .skip)) (.seq (.drw [0,0,0,4,0,16,0,64,240,510,497,2047,4095] [(0,lA 59 2 2),(1,lA 60 2 12),(2,fD 61 3 3),(3,lA 62 2 61),(4,fD 63 6 13),(5,lA 64 2 63),(6,fD 65 5 3),(7,lD 66 1 65),(8,oP 67 (.call 211 [.t 64,.t 66])),(9,oP 68 (.build [i0,i0,i0,i0,i0,i0,s0] [(0,(1,.c (.int .i64 2))),(1,(2,.t 60)),(3,(2,.t 62)),(5,(1,.t 67))])),(10,nP (.sto 2 (.t 4) (.t 59))),(11,nP (.sto 7 (.t 5) (.t 68))),(12,oP 6 (.mv (.c (.bool true))))]) .ret)) .skip)) (sR [fD 70 0 2,lD 71 1 70,fD 72 4 13,lA 73 2 72,fD 74 5 3,lD 75 1 74,fD 76 6 3,lD 77 1 76,oP 78 (.call 212 [.t 71,.t 73,.t 75,.t 77,.c (.bool true)]),mV 69 78,eX 79 69 0,eX 80 69 1,eX 81 69 2,oP 15 (.alloc 179 [s0,.nils]),mV 14 79,nP (.sto 2 (.t 15) (.t 80)),mV 8 81] (.seq (sR [mV 82 8,oP 83 (.un .not (.t 82))] (.cond (.t 83) (sR [lA 84 2 2,oP 85 (.build [i0,i0,i0,i0,i0,i0,s0] []),nP (.sto 2 (.t 4) (.t 84)),nP (.sto 7 (.t 5) (.t 85)),oP 6 (.mv (.c (.bool false)))] .ret) .skip)) (sR [fD 87 4 13,lA 88 2 87,lA 89 2 15,lA 90 7 3,oP 91 (.call 213 [.t 88,.t 89,.t 90]),mV 86 91,eX 92 86 0,eX 93 86 1,oP 16 (.alloc 70 [i0,i0,i0,i0,i0,i0,s0]),nP (.sto 7 (.t 16) (.t 92)),mV 8 93] (sR [lA 94 2 15,fD 95 4 13,nP (.sto 2 (.t 95) (.t 94))] (sR [mV 96 14,fD 97 0 2,nP (.sto 1 (.t 97) (.t 96))] (sR [fD 98 1 2,lD 99 1 98,mV 100 7,lA 101 8 13,oP 102 (.iad 8 (.t 99) (.t 100)),nP (.sto 8 (.t 102) (.t 101))] (.seq (sR [mV 103 8,oP 104 (.un .not (.t 103))] (.cond (.t 104) (sR [lA 105 2 2,oP 106 (.build [i0,i0,i0,i0,i0,i0,s0] []),nP (.sto 2 (.t 4) (.t 105)),nP (.sto 7 (.t 5) (.t 106)),oP 6 (.mv (.c (.bool false)))] .ret) .skip)) (sR [lA 107 2 12,fD 108 1 16,nP (.sto 2 (.t 108) (.t 107))] (.seq (.drw [0,0,1,7,15] [(0,lA 109 2 2),(1,lA 110 7 16),(2,nP (.sto 2 (.t 4) (.t 109))),(3,nP (.sto 7 (.t 5) (.t 110))),(4,oP 6 (.mv (.c (.bool true))))]) .ret)))))))))))))))
theorem dg191:Dg Tryz.prog 191 Tryz.f191 ic191 [(.cell 4 2 true),(.cell 5 7 true),(.t 6)]:=⟨Tryz.func191,by kernel_rfl,by kernel_rfl⟩
theorem c191 (d:Door) (p:Pk) (hd:doorOk d=true) (hl:d.flows.length≤3) (hp:PkP p) (hi:p.frm.inside=true) (ho:p.to.outside=true):FnP Tryz.prog G 191 0 [.arr 88 3 (d.map.map Pair.row),.arr 181 8 (d.flows.map Flw.row)]
 [.agg [.own 0 d.map.length,.own 1 d.flows.length],.agg [.int .i64 p.kind,.int .i64 p.frm.a,.int .i64 p.frm.p,.int .i64 p.to.a,.int .i64 p.to.p,.int .i64 p.at_,.str p.text]] (doorA (dOut d p)):=by
 refine mP dg191 Tryz.ntmps191 ⟨_,_,rfl,rfl⟩ ?_
 have hm:=(doorOk_iff.1 hd).1
 have hyes:=fun ok=>openR_ok hd hi ho ok
 have hout:=fun ok=>dOut_yes (p:=p) ok (hyes ok).kl
 have hno:=fun ok=>dOut_no (d:=d) (p:=p) ok
 have hno':=fun ok=>openR_no (d:=d) (i:=p.frm) (o:=p.to) ok
 simp only[ic191,go_sem]
 refine callU (c208 d p.frm p.to hm hl) [0,1] [] 23 2 (by simp only[go_sem];first|done|simp) (by simp only[go_sem];first|done|simp) (by simp) (by simp) (by rintro _ _ ⟨rfl,rfl⟩;simp) (by intro i hi;rcases(show i=0∨i=1 by omega) with rfl|rfl<;>simp only[go_sem]) ?_
 rintro _ _ ⟨rfl,rfl⟩
 simp only[go_sem]
 generalize hx:openR d p.frm p.to=x at *
 obtain⟨x,k,ok⟩:=x
 simp only at hyes hout hno hno'
 cases ok<;>simp only[go_sem]
 ·refine doorRet 102300 102301 (hno rfl) ?_ ?_ ?_ ?_ ?_ ?_ ?_ (by decide)<;>simp only[go_sem,hno' rfl,Option.isSome_none,Option.getD_none,Pk.zero,E.zero]
 obtain⟨x1,x2,x3,x4,x5,x6,x7,x8⟩:=hyes rfl
 rw[hout rfl]
 obtain⟨xp,xl⟩:=mapOk_ports x1
 have hmo:=mOut_found (fun p h=>(xp p h).1) x2
 clear hyes hout hno hno'
 refine callN (c209 x.map p.frm.a p.frm.p xp (by omega)) [102300] [] true 36 2 (by simp only[go_sem];first|done|simp) (by simp only[go_sem];first|done|simp) (by simp) (by simp) (by simp) ?_ ?_ ?_
 ·rintro res out (⟨_,rfl,rfl⟩|⟨rfl,rfl,_⟩)
  ·exact⟨by simp,by simp,.inl rfl,fun i hi=>by obtain rfl:i=0:=(by omega);simp[chH,stepOk]⟩
  ·exact⟨by simp,by simp,.inl rfl,fun i hi=>by obtain rfl:i=0:=(by omega);simp[chH,stepOk]⟩
 ·intro i hi
  have:i=0∨i=1:=by omega
  rcases this with rfl|rfl<;>simp only[go_sem]
 intro res out hoA
 obtain⟨_,rfl,rfl⟩:=hoA.resolve_right (fun h3=>h3.2.2.2 (by rw[hmo]))
 simp only[go_sem,hmo]
 have hg:x.flows.getD k default=Flw.at x k:=rfl
 rw[hg] at x6 x7
 have s1:=strmOk_B x6
 have s2:=strmOk_B x7
 have so:=sOut_len s2
 have hpa:=hp.at_
 have hpl:=hp.len
 have f1:=c210 (Flw.at x k).down s2
 have f2:=c211 (Flw.at x k).down p.at_ s2 (by omega)
 generalize hpo:portOf x.map p.frm=po at *
 with_reducible repeat' (first|refine br ?_ ?_<;>intro h e<;>(try simp only[e,go_sem,getD_mp x4,hg])<;>clear e|rw[i64w (by omega)]|refine sd ?_<;>try simp only[go_sem,getD_mp x4,hg]|(first|refine cr (f1 ..) ?_|refine cr (f2 ..) ?_)<;>try simp only[go_sem,getD_mp x4,hg]|fail)
 ·have:outK x k p=(x,none):=by
   simp only[outK];rw[if_pos (by assumption),if_pos (by omega)]
  refine doorRet 102300 102301 this ?_ ?_ ?_ ?_ ?_ ?_ ?_ (by decide)<;>simp only[go_sem,Option.isSome_none,Option.getD_none,Pk.zero,E.zero]
 ·have:outK x k p=(x,some ⟨2,⟨9,po⟩,p.to,backP (Flw.at x k).down.parts p.at_,[]⟩):=by
   simp only[outK,hpo];rw[if_pos (by assumption),if_neg (by omega)]
  refine doorRet 102300 102301 this ?_ ?_ ?_ ?_ ?_ ?_ ?_ (by decide)<;>simp only[go_sem,Option.isSome_some,Option.getD_some]
 have hpo2:PutOk x.map (Flw.at x k).up p.at_ p.text:=⟨x1,x6,hpa,hpl⟩
 refine callN (c212T x.map (Flw.at x k).up p.at_ p.text hpo2) [102300] [] true 78 2 (by simp only[go_sem];first|done|simp) (by simp only[go_sem];first|done|simp) (by simp) (by simp) (by simp) ?_ ?_ ?_
 ·rintro res out (⟨_,rfl,rfl⟩|⟨_,rfl,rfl⟩)
  ·exact⟨by simp,by simp,.inl rfl,fun i hi=>by obtain rfl:i=0:=(by omega);simp[chH,stepOk]⟩
  ·exact⟨by simp,by simp,.inl rfl,fun i hi=>by obtain rfl:i=0:=(by omega);simp[chH,stepOk]⟩
 ·intro i hi
  have:i=0∨i=1:=by omega
  rcases this with rfl|rfl<;>simp only[go_sem]
 have htx:=hp.tx.resolve_left (by assumption)
 have hpk:=put_ok (m:=x.map) (s:=(Flw.at x k).up) (n:=p.at_) (t:=p.text) (out:=true) x1 x6 htx hpa.1
 have hko:outK x k p=if(put x.map (Flw.at x k).up p.at_ p.text true).2.2=false then(x,none)
  else(⟨(put x.map (Flw.at x k).up p.at_ p.text true).1,x.flows.set k { Flw.at x k with up:=(put x.map (Flw.at x k).up p.at_ p.text true).2.1 }⟩,
   (sendOn (Flw.at x k).up (put x.map (Flw.at x k).up p.at_ p.text true).2.1 p).map fun q=>{ q with frm:=⟨9,po⟩ }):=by
  simp only[outK,hpo];rw[if_neg (by assumption)]
 rintro res out (⟨h,rfl,rfl⟩|⟨h,rfl,rfl⟩)
 ·generalize hP:put x.map (Flw.at x k).up p.at_ p.text true=P at *
  obtain⟨m',s',ok'⟩:=P
  simp only at h hpk hko
  subst h
  cases ok'<;>simp only[go_sem]
  ·rw[if_pos rfl] at hko
   with_reducible repeat' (first|refine br ?_ ?_<;>intro h e<;>(try simp only[e,go_sem])<;>clear e|rw[i64w (by omega)]|refine sd ?_<;>try simp only[go_sem]|fail)
   refine doorRet 102300 102301 hko ?_ ?_ ?_ ?_ ?_ ?_ ?_ (by decide)<;>simp only[go_sem,Option.isSome_none,Option.getD_none,Pk.zero,E.zero]
  rw[if_neg (by simp),sendR_on] at hko
  have f3:=c213 (Flw.at x k).up s' p (strmOk_B hpk.2) (by have:=s1.1;omega) (by omega) (by omega)
  generalize hS:sendR (Flw.at x k).up s' p=S at *
  obtain⟨q,okq⟩:=S
  simp only at hko
  cases okq
  all_goals
   with_reducible repeat' (first|refine br ?_ ?_<;>intro h e<;>(try simp only[e,go_sem])<;>clear e|rw[i64w (by omega)]|refine sd ?_<;>try simp only[go_sem]|(first|refine cr (f3 ..) ?_)<;>try simp only[go_sem]|fail)
  ·refine doorRet (d:=⟨x.map,x.flows.set k { Flw.at x k with up:=s' }⟩) (q:=none) 102300 102301 (by rw[hko];rfl) ?_ ?_ ?_ ?_ ?_ ?_ ?_ (by decide)<;>simp only[go_sem,Option.isSome_none,Option.getD_none,Pk.zero,E.zero,List.map_set,List.length_set,getD_mp x4,hg]
  ·refine doorRet (d:=⟨x.map,x.flows.set k { Flw.at x k with up:=s' }⟩) (q:=some { q with frm:=⟨9,po⟩ }) 102300 102301 (by rw[hko];rfl) ?_ ?_ ?_ ?_ ?_ ?_ ?_ (by decide)<;>simp only[go_sem,Option.isSome_some,Option.getD_some,List.map_set,List.length_set,getD_mp x4,hg]
 ·generalize hP:put x.map (Flw.at x k).up p.at_ p.text true=P at *
  obtain⟨m',s',ok'⟩:=P
  simp only at h hpk hko
  subst h
  simp only[go_sem]
  rw[if_neg (by simp),sendR_on] at hko
  have f3:=c213 (Flw.at x k).up s' p (strmOk_B hpk.2) (by have:=s1.1;omega) (by omega) (by omega)
  generalize hS:sendR (Flw.at x k).up s' p=S at *
  obtain⟨q,okq⟩:=S
  simp only at hko
  cases okq
  all_goals
   with_reducible repeat' (first|refine br ?_ ?_<;>intro h e<;>(try simp only[e,go_sem])<;>clear e|rw[i64w (by omega)]|refine sd ?_<;>try simp only[go_sem]|(first|refine cr (f3 ..) ?_)<;>try simp only[go_sem]|fail)
  ·refine doorRet (d:=⟨m',x.flows.set k { Flw.at x k with up:=s' }⟩) (q:=none) 107801 102301 (by rw[hko];rfl) ?_ ?_ ?_ ?_ ?_ ?_ ?_ (by decide)<;>simp only[go_sem,Option.isSome_none,Option.getD_none,Pk.zero,E.zero,List.map_set,List.length_set,getD_mp x4,hg]
  ·refine doorRet (d:=⟨m',x.flows.set k { Flw.at x k with up:=s' }⟩) (q:=some { q with frm:=⟨9,po⟩ }) 107801 102301 (by rw[hko];rfl) ?_ ?_ ?_ ?_ ?_ ?_ ?_ (by decide)<;>simp only[go_sem,Option.isSome_some,Option.getD_some,List.map_set,List.length_set,getD_mp x4,hg]
def ic192:IC:=sR [oP 2 (.box 38 (.t 0)),oP 3 (.box 70 (.t 1)),oP 4 (.alloc 38 [.nils,.nils]),oP 5 (.alloc 70 [i0,i0,i0,i0,i0,i0,s0]),oP 6 (.mv (.c (.bool false)))] (sR [fD 15 0 2,lD 16 1 15,fD 17 3 3,fD 18 1 17,lD 19 1 18,oP 20 (.call 214 [.t 16,.t 19]),mV 14 20,eX 21 14 0,eX 22 14 1,oP 7 (.alloc 45 [i0,i0]),nP (.sto 2 (.t 7) (.t 21)),mV 8 22] (sR [fD 23 1 2,lD 24 1 23,lA 25 2 7,fD 26 1 3,lA 27 2 26,oP 28 (.call 172 [.t 24,.t 25,.t 27]),mV 9 28] (.seq (sR [mV 29 8,oP 30 (.un .not (.t 29)),mV 31 30,⟨some 32,some (31,false),.mv (.t 9)⟩,⟨some 33,some (31,false),.bin .lss (.t 32) (.c i0)⟩,oP 34 (.pick (.t 31) (.c (.bool true)) (.t 33))] (.cond (.t 34) (sR [lA 35 2 2,oP 36 (.build [i0,i0,i0,i0,i0,i0,s0] []),nP (.sto 2 (.t 4) (.t 35)),nP (.sto 7 (.t 5) (.t 36)),oP 6 (.mv (.c (.bool false)))] .ret) .skip)) (sR [fD 37 1 2,lD 38 1 37,mV 39 9,oP 40 (.iad 8 (.t 38) (.t 39)),lA 41 8 40,oP 10 (.alloc 181 [i0,i0,i0,i0,s0,.nils,s0,.nils]),nP (.sto 8 (.t 10) (.t 41))] (.seq (sR [fD 42 0 3,lD 43 1 42,oP 44 (.bin .eql (.t 43) (.c (.int .i64 2)))] (.cond (.t 44) (.seq (.seq (.drw [0,1,0,4,12,28,63] [(0,fD 45 5 3),(1,lD 46 1 45),(2,fD 47 4 10),(3,lA 48 2 47),(4,oP 49 (.call 210 [.t 48])),(5,oP 50 (.lens (.t 49))),(6,bN 51 .gtr 46 50)]) (.cond (.t 51) (sR [lA 52 2 2,oP 53 (.build [i0,i0,i0,i0,i0,i0,s0] []),nP (.sto 2 (.t 4) (.t 52)),nP (.sto 7 (.t 5) (.t 53)),oP 6 (.mv (.c (.bool false)))] .ret) .skip)) (.seq (.drw [0,0,2,0,0,16,0,64,240,510,497,2047,4095] [(0,lA 54 2 2),(1,fD 55 1 3),(2,lA 56 2 55),(3,lA 57 2 7),(4,fD 58 4 10),(5,lA 59 2 58),(6,fD 60 5 3),(7,lD 61 1 60),(8,oP 62 (.call 211 [.t 59,.t 61])),(9,oP 63 (.build [i0,i0,i0,i0,i0,i0,s0] [(0,(1,.c (.int .i64 2))),(1,(2,.t 56)),(3,(2,.t 57)),(5,(1,.t 62))])),(10,nP (.sto 2 (.t 4) (.t 54))),(11,nP (.sto 7 (.t 5) (.t 63))),(12,oP 6 (.mv (.c (.bool true))))]) .ret)) .skip)) (sR [fD 65 0 2,lD 66 1 65,fD 67 6 10,lA 68 2 67,fD 69 5 3,lD 70 1 69,fD 71 6 3,lD 72 1 71,oP 73 (.call 212 [.t 66,.t 68,.t 70,.t 72,.c (.bool false)]),mV 64 73,eX 74 64 0,eX 75 64 1,eX 76 64 2,oP 12 (.alloc 179 [s0,.nils]),mV 11 74,nP (.sto 2 (.t 12) (.t 75)),mV 8 76] (.seq (sR [mV 77 8,oP 78 (.un .not (.t 77))] (.cond (.t 78) (sR [lA 79 2 2,oP 80 (.build [i0,i0,i0,i0,i0,i0,s0] []),nP (.sto 2 (.t 4) (.t 79)),nP (.sto 7 (.t 5) (.t 80)),oP 6 (.mv (.c (.bool false)))] .ret) .skip)) (sR [fD 82 6 10,lA 83 2 82,lA 84 2 12,lA 85 7 3,oP 86 (.call 213 [.t 83,.t 84,.t 85]),mV 81 86,eX 87 81 0,eX 88 81 1,oP 13 (.alloc 70 [i0,i0,i0,i0,i0,i0,s0]),nP (.sto 7 (.t 13) (.t 87)),mV 8 88] (sR [lA 89 2 12,fD 90 6 10,nP (.sto 2 (.t 90) (.t 89))] (sR [fD 91 1 2,lD 92 1 91,mV 93 9,lA 94 8 10,oP 95 (.iad 8 (.t 92) (.t 93)),nP (.sto 8 (.t 95) (.t 94))] (.seq (sR [mV 96 8,oP 97 (.un .not (.t 96))] (.cond (.t 97) (sR [lA 98 2 2,oP 99 (.build [i0,i0,i0,i0,i0,i0,s0] []),nP (.sto 2 (.t 4) (.t 98)),nP (.sto 7 (.t 5) (.t 99)),oP 6 (.mv (.c (.bool false)))] .ret) .skip)) (sR [lA 100 2 7,fD 101 3 13,nP (.sto 2 (.t 101) (.t 100))] (.seq (.drw [0,0,1,7,15] [(0,lA 102 2 2),(1,lA 103 7 13),(2,nP (.sto 2 (.t 4) (.t 102))),(3,nP (.sto 7 (.t 5) (.t 103))),(4,oP 6 (.mv (.c (.bool true))))]) .ret)))))))))))))
theorem dg192:Dg Tryz.prog 192 Tryz.f192 ic192 [(.cell 4 2 true),(.cell 5 7 true),(.t 6)]:=⟨Tryz.func192,by kernel_rfl,by kernel_rfl⟩
theorem c192 (d:Door) (p:Pk) (hd:doorOk d=true) (hp:PkP p) (hi:p.to.door=true):FnP Tryz.prog G 192 0 [.arr 88 3 (d.map.map Pair.row),.arr 181 8 (d.flows.map Flw.row)]
 [.agg [.own 0 d.map.length,.own 1 d.flows.length],.agg [.int .i64 p.kind,.int .i64 p.frm.a,.int .i64 p.frm.p,.int .i64 p.to.a,.int .i64 p.to.p,.int .i64 p.at_,.str p.text]] (doorA (dIn d p)):=by
 refine mP dg192 Tryz.ntmps192 ⟨_,_,rfl,rfl⟩ ?_
 obtain⟨hm,hfl,_⟩:=doorOk_iff.1 hd
 have hdr:=E.door_iff.1 hi
 simp only[ic192,go_sem]
 refine callF (c214 d.map p.to.p hm (by omega)) [0] false (by simp only[go_sem];first|done|simp[E.row,Pc.row,Pair.row,Part.row,Flw.row,Pk.row,Conv.row]) (by simp only[List.mem_singleton];rintro c rfl;rfl) rfl (.inr rfl) ?_
 simp only[go_sem]
 cases hin:insideOf d.map p.to.p with
 | none =>
   simp only[go_sem,Option.isSome_none,Option.getD_none,E.zero]
   refine callF (c172 d.flows ⟨0,0⟩ p.frm (by omega)) [1] false (by simp only[go_sem];first|done|simp[E.row,Pc.row,Pair.row,Part.row,Flw.row,Pk.row,Conv.row]) (by simp only[List.mem_singleton];rintro c rfl;rfl) rfl (.inr rfl) ?_
   simp only[go_sem]
   with_reducible repeat' (first|refine br ?_ ?_<;>intro h e<;>(try simp only[e,go_sem])<;>clear e|rw[i64w (by omega)]|refine sd ?_<;>try simp only[go_sem]|fail)
   refine doorRet (q:=none) 0 1 (dIn_no1 hin) ?_ ?_ ?_ ?_ ?_ ?_ ?_ (by decide)<;>simp only[go_sem,Option.isSome_none,Option.getD_none,Pk.zero,E.zero]
 | some i =>
   simp only[go_sem,Option.isSome_some,Option.getD_some]
   refine callF (c172 d.flows i p.frm (by omega)) [1] false (by simp only[go_sem];first|done|simp[E.row,Pc.row,Pair.row,Part.row,Flw.row,Pk.row,Conv.row]) (by simp only[List.mem_singleton];rintro c rfl;rfl) rfl (.inr rfl) ?_
   simp only[go_sem]
   cases hf:flowIx d.flows i p.frm with
   | none =>
     simp only[ixI,go_sem]
     with_reducible repeat' (first|refine br ?_ ?_<;>intro h e<;>(try simp only[e,go_sem])<;>clear e|rw[i64w (by omega)]|refine sd ?_<;>try simp only[go_sem]|fail)
     refine doorRet (q:=none) 0 1 (dIn_no2 hin hf) ?_ ?_ ?_ ?_ ?_ ?_ ?_ (by decide)<;>simp only[go_sem,Option.isSome_none,Option.getD_none,Pk.zero,E.zero]
   | some k =>
     obtain⟨hk,hke⟩:=dIn_yes hin hf
     rw[hke]
     have hg:d.flows.getD k default=Flw.at d k:=rfl
     have hfk:d.flows[k]?=some (Flw.at d k):=by simp[Flw.at,List.getD,hk]
     obtain⟨_,_,x6,x7,_⟩:=flow_at hd hfk
     have s1:=strmOk_B x6
     have s2:=strmOk_B x7
     have so:=sOut_len s1
     have hpa:=hp.at_
     have hpl:=hp.len
     have f1:=c210 (Flw.at d k).up s1
     have f2:=c211 (Flw.at d k).up p.at_ s1 (by omega)
     have hlt:¬((k:Int)<0):=by omega
     simp only[ixI,go_sem,eq_false hlt]
     with_reducible repeat' (first|refine br ?_ ?_<;>intro h e<;>(try simp only[e,go_sem,getD_mp hk,hg])<;>clear e|rw[i64w (by omega)]|refine sd ?_<;>try simp only[go_sem,getD_mp hk,hg]|(first|refine cr (f1 ..) ?_|refine cr (f2 ..) ?_)<;>try simp only[go_sem,getD_mp hk,hg]|fail)
     ·have:inK d k i p=(d,none):=by
       simp only[inK];rw[if_pos (by assumption),if_pos (by omega)]
      refine doorRet (q:=none) 0 1 this ?_ ?_ ?_ ?_ ?_ ?_ ?_ (by decide)<;>simp only[go_sem,Option.isSome_none,Option.getD_none,Pk.zero,E.zero]
     ·have:inK d k i p=(d,some ⟨2,p.frm,i,backP (Flw.at d k).up.parts p.at_,[]⟩):=by
       simp only[inK];rw[if_pos (by assumption),if_neg (by omega)]
      refine doorRet 0 1 this ?_ ?_ ?_ ?_ ?_ ?_ ?_ (by decide)<;>simp only[go_sem,Option.isSome_some,Option.getD_some]
     refine callN (c212F d.map (Flw.at d k).down p.at_ p.text ⟨hm,x7,hpa,hpl⟩) [0] [] true 73 1 (by simp only[go_sem];first|done|simp) (by simp only[go_sem];first|done|simp) (by simp) (by simp) (by simp) ?_ ?_ ?_
     ·rintro res out ⟨_,rfl,rfl⟩
      exact⟨by simp,by simp,.inl rfl,fun i hi=>by obtain rfl:i=0:=(by omega);simp[chH,stepOk]⟩
     ·intro i hi
      obtain rfl:i=0:=by omega
      simp only[go_sem]
     have htx:=hp.tx.resolve_left (by assumption)
     have hpk:=put_ok (m:=d.map) (s:=(Flw.at d k).down) (n:=p.at_) (t:=p.text) (out:=false) hm x7 htx hpa.1
     have hko:inK d k i p=if(put d.map (Flw.at d k).down p.at_ p.text false).2.2=false then(d,none)
      else(⟨d.map,d.flows.set k { Flw.at d k with down:=(put d.map (Flw.at d k).down p.at_ p.text false).2.1 }⟩,
       (sendOn (Flw.at d k).down (put d.map (Flw.at d k).down p.at_ p.text false).2.1 p).map fun q=>{ q with to:=i }):=by
      simp only[inK];rw[if_neg (by assumption)]
     rintro res out ⟨h,rfl,rfl⟩
     generalize hP:put d.map (Flw.at d k).down p.at_ p.text false=P at *
     obtain⟨m',s',ok'⟩:=P
     simp only at h hpk hko
     subst h
     cases ok'<;>simp only[go_sem]
     ·rw[if_pos rfl] at hko
      with_reducible repeat' (first|refine br ?_ ?_<;>intro h e<;>(try simp only[e,go_sem])<;>clear e|rw[i64w (by omega)]|refine sd ?_<;>try simp only[go_sem]|fail)
      refine doorRet (q:=none) 0 1 hko ?_ ?_ ?_ ?_ ?_ ?_ ?_ (by decide)<;>simp only[go_sem,Option.isSome_none,Option.getD_none,Pk.zero,E.zero]
     rw[if_neg (by simp),sendR_on] at hko
     have f3:=c213 (Flw.at d k).down s' p (strmOk_B hpk.2) (by have:=s2.1;omega) (by omega) (by omega)
     generalize hS:sendR (Flw.at d k).down s' p=S at *
     obtain⟨q,okq⟩:=S
     simp only at hko
     cases okq
     all_goals
      with_reducible repeat' (first|refine br ?_ ?_<;>intro h e<;>(try simp only[e,go_sem])<;>clear e|rw[i64w (by omega)]|refine sd ?_<;>try simp only[go_sem]|(first|refine cr (f3 ..) ?_)<;>try simp only[go_sem]|fail)
     ·refine doorRet (d:=⟨d.map,d.flows.set k { Flw.at d k with down:=s' }⟩) (q:=none) 0 1 (by rw[hko];rfl) ?_ ?_ ?_ ?_ ?_ ?_ ?_ (by decide)<;>simp only[go_sem,Option.isSome_none,Option.getD_none,Pk.zero,E.zero,List.map_set,List.length_set,getD_mp hk,hg]
     ·refine doorRet (d:=⟨d.map,d.flows.set k { Flw.at d k with down:=s' }⟩) (q:=some { q with to:=i }) 0 1 (by rw[hko];rfl) ?_ ?_ ?_ ?_ ?_ ?_ ?_ (by decide)<;>simp only[go_sem,Option.isSome_some,Option.getD_some,List.map_set,List.length_set,getD_mp hk,hg]
def ic175:IC:=sR [oP 2 (.box 38 (.t 0)),oP 3 (.box 70 (.t 1)),oP 4 (.alloc 38 [.nils,.nils]),oP 5 (.alloc 70 [i0,i0,i0,i0,i0,i0,s0]),oP 6 (.mv (.c (.bool false)))] (.seq (.block 0 (sR [fD 8 1 3,lA 9 2 8,oP 10 (.call 94 [.t 9]),mV 11 10,⟨some 12,some (11,true),.fad 3 (.t 3)⟩,⟨some 13,some (11,true),.ld 2 true (.t 12)⟩,⟨some 14,some (11,true),.call 95 [.t 13]⟩,oP 15 (.pick (.t 11) (.t 14) (.c (.bool false))),mV 7 15] (.cond (.t 7) (sR [lA 16 2 2,lA 17 7 3,oP 18 (.call 191 [.t 16,.t 17]),eX 19 18 0,eX 20 18 1,eX 21 18 2,nP (.sto 2 (.t 4) (.t 19)),nP (.sto 7 (.t 5) (.t 20)),mV 6 21] .ret) (sR [fD 23 1 3,lA 24 2 23,oP 25 (.call 95 [.t 24]),mV 26 25,⟨some 27,some (26,true),.fad 3 (.t 3)⟩,⟨some 28,some (26,true),.ld 2 true (.t 27)⟩,⟨some 29,some (26,true),.call 110 [.t 28]⟩,oP 30 (.pick (.t 26) (.t 29) (.c (.bool false))),mV 22 30] (.cond (.t 22) (sR [lA 31 2 2,lA 32 7 3,oP 33 (.call 192 [.t 31,.t 32]),eX 34 33 0,eX 35 33 1,eX 36 33 2,nP (.sto 2 (.t 4) (.t 34)),nP (.sto 7 (.t 5) (.t 35)),mV 6 36] .ret) .skip))))) (sR [lA 37 2 2,oP 38 (.build [i0,i0,i0,i0,i0,i0,s0] []),nP (.sto 2 (.t 4) (.t 37)),nP (.sto 7 (.t 5) (.t 38)),oP 6 (.mv (.c (.bool false)))] .ret))
theorem dg175:Dg Tryz.prog 175 Tryz.f175 ic175 [(.cell 4 2 true),(.cell 5 7 true),(.t 6)]:=⟨Tryz.func175,by kernel_rfl,by kernel_rfl⟩
theorem c175 (d:Door) (p:Pk) (hd:doorOk d=true) (hl:d.flows.length≤3) (hp:PkP p):FnP Tryz.prog G 175 0 [.arr 88 3 (d.map.map Pair.row),.arr 181 8 (d.flows.map Flw.row)]
 [.agg [.own 0 d.map.length,.own 1 d.flows.length],.agg [.int .i64 p.kind,.int .i64 p.frm.a,.int .i64 p.frm.p,.int .i64 p.to.a,.int .i64 p.to.p,.int .i64 p.at_,.str p.text]] (doorA (dPass d p)):=by
 refine mP dg175 Tryz.ntmps175 ⟨_,_,rfl,rfl⟩ ?_
 simp only[ic175,go_sem]
 with_reducible repeat' (first|refine br ?_ ?_<;>intro h e<;>(try simp only[e,go_sem])<;>clear e|rw[i64w (by omega)]|refine sd ?_<;>try simp only[go_sem]|(first|refine cr (c94 ..) ?_|refine cr (c95 ..) ?_|refine cr (c110 ..) ?_)<;>try simp only[go_sem]|fail)
 all_goals first
  | (have hx:dPass d p=(d,none):=by simp_all[dPass,Pk.outward,Pk.inward]
     refine doorRet (q:=none) 0 1 hx ?_ ?_ ?_ ?_ ?_ ?_ ?_ (by decide)<;>simp only[go_sem,Option.isSome_none,Option.getD_none,Pk.zero,E.zero])
  | (have hx:dPass d p=dOut d p:=by simp_all[dPass,Pk.outward,Pk.inward]
     refine callU (c191 d p hd hl hp (by assumption) (by assumption)) [0,1] [] 18 2 (by simp only[go_sem];first|done|simp) (by simp only[go_sem];first|done|simp) (by simp) (by simp) (by rintro _ _ ⟨rfl,rfl⟩;simp) (by intro i hi;rcases(show i=0∨i=1 by omega) with rfl|rfl<;>simp only[go_sem]) ?_
     rintro _ _ ⟨rfl,rfl⟩
     simp only[go_sem]
     refine doorRet (d:=(dOut d p).1) (q:=(dOut d p).2) 101800 101801 hx ?_ ?_ ?_ ?_ ?_ ?_ ?_ (by decide)<;>simp only[go_sem])
  | (have hx:dPass d p=dIn d p:=by simp_all[dPass,Pk.outward,Pk.inward]
     refine callU (c192 d p hd hp (by assumption)) [0,1] [] 33 2 (by simp only[go_sem];first|done|simp) (by simp only[go_sem];first|done|simp) (by simp) (by simp) (by rintro _ _ ⟨rfl,rfl⟩;simp) (by intro i hi;rcases(show i=0∨i=1 by omega) with rfl|rfl<;>simp only[go_sem]) ?_
     rintro _ _ ⟨rfl,rfl⟩
     simp only[go_sem]
     refine doorRet (d:=(dIn d p).1) (q:=(dIn d p).2) 103300 103301 hx ?_ ?_ ?_ ?_ ?_ ?_ ?_ (by decide)<;>simp only[go_sem])
def passA (x:M.World×Option Pk) (r:V) (out:List Hs):Prop:=r=.tup [.agg [.own 0 x.1.convs.length,.own 1 x.1.door.map.length,.own 2 x.1.door.flows.length,.own 3 x.1.nets.length],.agg (Pk.row (x.2.getD .zero)),.bool x.2.isSome]∧out=[.arr 47 10 (x.1.convs.map Conv.row),.arr 88 3 (x.1.door.map.map Pair.row),.arr 181 8 (x.1.door.flows.map Flw.row),.arr 70 7 (x.1.nets.map Pk.row)]
theorem passRet {x:M.World×Option Pk} {w:M.World} {q:Option Pk} {l:List (Nat×V)} {mm:List (Nat×Hs)} (n0 n1 n2 n3:Nat) (hx:x=(w,q)) (h4:getL l 4=.pv 1004 0) (h5:getL l 5=.pv 1005 0) (h6:getL l 6=.bool q.isSome)
 (m4:getH mm 1004=.var 41 [.own n0 w.convs.length,.own n1 w.door.map.length,.own n2 w.door.flows.length,.own n3 w.nets.length]) (m5:getH mm 1005=.var 70 (Pk.row (q.getD .zero)))
 (m0:getH mm n0=.arr 47 10 (w.convs.map Conv.row)) (m1:getH mm n1=.arr 88 3 (w.door.map.map Pair.row)) (m2:getH mm n2=.arr 181 8 (w.door.flows.map Flw.row)) (m3:getH mm n3=.arr 70 7 (w.nets.map Pk.row))
 (hne:[n0,n1,n2,n3].Nodup):retQ [.cell 4 4 true,.cell 5 7 true,.t 6] 0 (passA x) .ret ⟨getL l,getH mm⟩:=by
 subst hx
 refine retN (.tup [.agg [.own 0 w.convs.length,.own 1 w.door.map.length,.own 2 w.door.flows.length,.own 3 w.nets.length],.agg (Pk.row (q.getD .zero)),.bool q.isSome]) [.arr 47 10 (w.convs.map Conv.row),.arr 88 3 (w.door.map.map Pair.row),.arr 181 8 (w.door.flows.map Flw.row),.arr 70 7 (w.nets.map Pk.row)] [(0,n0),(1,n1),(2,n2),(3,n3)] ?_ ⟨rfl,rfl⟩ ?_ (by simpa[argH,getN] using hne) (by simp only[go_sem])
 ·simp only[go_sem,h4,h5,h6,m4,m5]
 ·simp only[go_sem,m0,m1,m2,m3]
def ic193:IC:=sR [oP 3 (.box 47 (.t 0)),oP 5 (.box 70 (.t 2)),oP 6 (.alloc 47 [i0,i0,i0,i0,s0,s0,i0,i0,s0,s0]),oP 7 (.alloc 70 [i0,i0,i0,i0,i0,i0,s0]),oP 8 (.mv (.c (.bool false)))] (sR [fD 10 3 5,lA 11 2 10,fD 12 1 5,lA 13 2 12,oP 14 (.build [i0,i0,i0,i0,i0,i0,s0] [(0,(1,.c (.int .i64 2))),(1,(2,.t 11)),(3,(2,.t 13))]),oP 9 (.alloc 70 [i0,i0,i0,i0,i0,i0,s0]),nP (.sto 7 (.t 9) (.t 14))] (.seq (sR [mV 15 1,mV 16 15,⟨some 17,some (16,true),.fad 1 (.t 5)⟩,⟨some 18,some (16,true),.ld 2 true (.t 17)⟩,⟨some 19,some (16,true),.fad 2 (.t 3)⟩,⟨some 20,some (16,true),.ld 2 true (.t 19)⟩,⟨some 21,some (16,true),.eqs true [.i,.i] (.t 18) (.t 20)⟩,⟨some 22,some (16,true),.mv (.t 21)⟩,⟨some 23,some (22,false),.fad 3 (.t 5)⟩,⟨some 24,some (22,false),.ld 2 true (.t 23)⟩,⟨some 25,some (22,false),.fad 0 (.t 3)⟩,⟨some 26,some (22,false),.ld 2 true (.t 25)⟩,⟨some 27,some (22,false),.eqs true [.i,.i] (.t 24) (.t 26)⟩,⟨some 28,some (16,true),.pick (.t 22) (.c (.bool true)) (.t 27)⟩,oP 29 (.pick (.t 16) (.t 28) (.c (.bool false))),mV 30 29,⟨some 31,some (30,false),.mv (.t 1)⟩,⟨some 32,some (30,false),.un .not (.t 31)⟩,⟨some 33,some (30,false),.mv (.t 32)⟩,⟨some 34,some (33,true),.fad 3 (.t 5)⟩,⟨some 35,some (33,true),.ld 2 true (.t 34)⟩,⟨some 36,some (33,true),.fad 2 (.t 3)⟩,⟨some 37,some (33,true),.ld 2 true (.t 36)⟩,⟨some 38,some (33,true),.eqs true [.i,.i] (.t 35) (.t 37)⟩,⟨some 39,some (33,true),.mv (.t 38)⟩,⟨some 40,some (39,false),.fad 1 (.t 5)⟩,⟨some 41,some (39,false),.ld 2 true (.t 40)⟩,⟨some 42,some (39,false),.call 110 [.t 41]⟩,⟨some 43,some (39,false),.un .not (.t 42)⟩,⟨some 44,some (33,true),.pick (.t 39) (.c (.bool true)) (.t 43)⟩,⟨some 45,some (30,false),.pick (.t 33) (.t 44) (.c (.bool false))⟩,oP 46 (.pick (.t 30) (.c (.bool true)) (.t 45))] (.cond (.t 46) (sR [lA 47 10 3,oP 48 (.build [i0,i0,i0,i0,i0,i0,s0] []),nP (.sto 10 (.t 6) (.t 47)),nP (.sto 7 (.t 7) (.t 48)),oP 8 (.mv (.c (.bool false)))] .ret) .skip)) (.seq (.block 0 (sR [fD 60 0 5,lD 61 1 60,oP 62 (.bin .eql (.t 61) (.c (.int .i64 1))),mV 63 62,⟨some 64,some (63,true),.mv (.t 1)⟩,oP 65 (.pick (.t 63) (.t 64) (.c (.bool false))),mV 59 65] (.cond (.t 59) (sR [fD 67 9 3,lD 68 1 67,fD 69 5 5,lD 70 1 69,fD 71 6 5,lD 72 1 71,oP 73 (.call 215 [.t 68,.t 70,.t 72]),mV 66 73,eX 74 66 0,eX 75 66 1,fD 76 9 3,nP (.sto 1 (.t 76) (.t 74))] (sR [fD 77 9 3,lD 78 1 77,oP 79 (.lens (.t 78)),fD 80 5 9,nP (.sto 1 (.t 80) (.t 79))] (.seq (.drw [0,0,1,7,15] [(0,lA 81 10 3),(1,lA 82 7 9),(2,nP (.sto 10 (.t 6) (.t 81))),(3,nP (.sto 7 (.t 7) (.t 82))),(4,oP 8 (.mv (.c (.bool true))))]) .ret))) (sR [fD 84 0 5,lD 85 1 84,oP 86 (.bin .eql (.t 85) (.c (.int .i64 1))),mV 83 86] (.cond (.t 83) (sR [fD 88 8 3,lD 89 1 88,fD 90 5 5,lD 91 1 90,fD 92 6 5,lD 93 1 92,oP 94 (.call 215 [.t 89,.t 91,.t 93]),mV 87 94,eX 95 87 0,eX 96 87 1,fD 97 8 3,nP (.sto 1 (.t 97) (.t 95))] (sR [fD 98 8 3,lD 99 1 98,oP 100 (.lens (.t 99)),fD 101 5 9,nP (.sto 1 (.t 101) (.t 100))] (.seq (.drw [0,0,1,7,15] [(0,lA 102 10 3),(1,lA 103 7 9),(2,nP (.sto 10 (.t 6) (.t 102))),(3,nP (.sto 7 (.t 7) (.t 103))),(4,oP 8 (.mv (.c (.bool true))))]) .ret))) (sR [mV 105 1,mV 104 105] (.cond (.t 104) (.reg [fD 106 6 3,lD 107 1 106,fD 108 5 5,lD 109 1 108,fD 110 4 3,lD 111 1 110,oP 112 (.lens (.t 111)),oP 113 (.mn (.t 109) (.t 112)),oP 114 (.mx (.t 107) (.t 113)),fD 115 6 3,nP (.sto 1 (.t 115) (.t 114))]) (.reg [fD 49 7 3,lD 50 1 49,fD 51 5 5,lD 52 1 51,fD 53 5 3,lD 54 1 53,oP 55 (.lens (.t 54)),oP 56 (.mn (.t 52) (.t 55)),oP 57 (.mx (.t 50) (.t 56)),fD 58 7 3,nP (.sto 1 (.t 58) (.t 57))])))))))) (sR [lA 116 10 3,oP 117 (.build [i0,i0,i0,i0,i0,i0,s0] []),nP (.sto 10 (.t 6) (.t 116)),nP (.sto 7 (.t 7) (.t 117)),oP 8 (.mv (.c (.bool false)))] .ret))))
theorem dg193:Dg Tryz.prog 193 Tryz.f193 ic193 [(.cell 6 10 true),(.cell 7 7 true),(.t 8)]:=⟨Tryz.func193,by kernel_rfl,by kernel_rfl⟩
theorem c193 (c:Conv) (b:Bool) (p:Pk) (hc:CvB c) (hp:PkP p):FnR Tryz.prog G 193 [.agg [.int .i64 c.ins.a,.int .i64 c.ins.p,.int .i64 c.out.a,.int .i64 c.out.p,.str c.up,.str c.down,.int .i64 c.upAck,.int .i64 c.downAck,.str c.upGot,.str c.downGot],.bool b,.agg [.int .i64 p.kind,.int .i64 p.frm.a,.int .i64 p.frm.p,.int .i64 p.to.a,.int .i64 p.to.p,.int .i64 p.at_,.str p.text]]
 (.tup [.agg (Conv.row (hear c b p).1),.agg (Pk.row ((hear c b p).2.getD .zero)),.bool (hear c b p).2.isSome]):=by
 refine mF dg193 Tryz.ntmps193 ?_
 have h1:=hp.at_
 have h2:=hp.len
 have h3:=hc.upGot
 have h4:=hc.downGot
 have g1:=c215 c.upGot p.at_ p.text (by omega) (by omega) (by omega)
 have g2:=c215 c.downGot p.at_ p.text (by omega) (by omega) (by omega)
 simp only[ic193,go_sem]
 cases b<;>simp only[go_sem,E.ext_iff']
 all_goals
  with_reducible repeat' (first|refine br ?_ ?_<;>intro h e<;>(try simp only[e,go_sem,E.ext_iff'])<;>clear e|rw[i64w (by omega)]|refine sd ?_<;>try simp only[go_sem,E.ext_iff']|(first|refine cr (c110 ..) ?_|refine cr (g1 ..) ?_|refine cr (g2 ..) ?_)<;>try simp only[go_sem,E.ext_iff']|fail)
 all_goals clear g1 g2
 all_goals first
  | (simp_all[hear,Pk.zero,E.zero];done)
  | (have hk:p.kind=2:=by have:=hp.kd;omega
     simp_all[hear,Pk.zero,E.zero];done)
def ic176:IC:=sR [oP 2 (.box 41 (.t 0)),oP 3 (.box 70 (.t 1)),oP 4 (.alloc 41 [.nils,.nils,.nils,.nils]),oP 5 (.alloc 70 [i0,i0,i0,i0,i0,i0,s0]),oP 6 (.mv (.c (.bool false)))] (.seq (sR [oP 7 (.mv (.c i0))] (.block 0 (.loop (.seq (sR [mV 14 7,fD 15 0 2,lD 16 1 15,oP 17 (.len (.t 16)),bN 18 .lss 14 17] (.cond (.t 18) .skip (.exit 0))) (.seq (.block 1 (sR [fD 21 0 2,lD 22 1 21,mV 23 7,oP 24 (.iad 10 (.t 22) (.t 23)),lA 25 10 24,oP 8 (.alloc 47 [i0,i0,i0,i0,s0,s0,i0,i0,s0,s0]),nP (.sto 10 (.t 8) (.t 25))] (sR [fD 26 3 3,lA 27 2 26,fD 28 0 8,lA 29 2 28,oP 30 (.eqs false [.i,.i] (.t 27) (.t 29)),mV 31 30,⟨some 32,some (31,true),.fad 1 (.t 3)⟩,⟨some 33,some (31,true),.ld 2 true (.t 32)⟩,⟨some 34,some (31,true),.fad 2 (.t 8)⟩,⟨some 35,some (31,true),.ld 2 true (.t 34)⟩,⟨some 36,some (31,true),.eqs false [.i,.i] (.t 33) (.t 35)⟩,oP 37 (.pick (.t 31) (.t 36) (.c (.bool false))),mV 9 37] (.seq (.drw [0,1,0,4,15,31,63,127,255,511,1023,2047,2047,6143,16383,2047,34815,100351,262143,524287,1048575] [(0,fD 38 3 3),(1,lA 39 2 38),(2,fD 40 2 8),(3,lA 41 2 40),(4,oP 42 (.eqs false [.i,.i] (.t 39) (.t 41))),(5,mV 43 42),(6,⟨some 44,some (43,true),.fad 1 (.t 3)⟩),(7,⟨some 45,some (43,true),.ld 2 true (.t 44)⟩),(8,⟨some 46,some (43,true),.call 110 [.t 45]⟩),(9,oP 47 (.pick (.t 43) (.t 46) (.c (.bool false)))),(10,mV 48 47),(11,⟨some 49,some (48,true),.ld 4 true (.t 2)⟩),(12,⟨some 50,some (48,true),.fad 0 (.t 8)⟩),(13,⟨some 51,some (48,true),.ld 2 true (.t 50)⟩),(14,⟨some 52,some (48,true),.call 144 [.t 49,.t 51]⟩),(15,⟨some 53,some (48,true),.fad 1 (.t 3)⟩),(16,⟨some 54,some (48,true),.fad 1 (.t 53)⟩),(17,⟨some 55,some (48,true),.ld 1 false (.t 54)⟩),(18,⟨some 56,some (48,true),.bin .eql (.t 52) (.t 55)⟩),(19,oP 57 (.pick (.t 48) (.t 56) (.c (.bool false)))),(20,mV 10 57)]) (sR [mV 58 9,mV 59 58,⟨some 60,some (59,false),.mv (.t 10)⟩,oP 61 (.pick (.t 59) (.c (.bool true)) (.t 60))] (.cond (.t 61) (sR [lA 63 10 8,mV 64 9,lA 65 7 3,oP 66 (.call 193 [.t 63,.t 64,.t 65]),mV 62 66,eX 67 62 0,eX 68 62 1,eX 69 62 2,oP 11 (.alloc 47 [i0,i0,i0,i0,s0,s0,i0,i0,s0,s0]),oP 12 (.alloc 70 [i0,i0,i0,i0,i0,i0,s0]),nP (.sto 10 (.t 11) (.t 67)),nP (.sto 7 (.t 12) (.t 68)),mV 13 69] (sR [fD 70 0 2,lD 71 1 70,mV 72 7,lA 73 10 11,oP 74 (.iad 10 (.t 71) (.t 72)),nP (.sto 10 (.t 74) (.t 73))] (.seq (.drw [0,0,0,1,11,31] [(0,lA 75 4 2),(1,lA 76 7 12),(2,mV 77 13),(3,nP (.sto 4 (.t 4) (.t 75))),(4,nP (.sto 7 (.t 5) (.t 76))),(5,mV 6 77)]) .ret))) .skip)))))) (.reg [mV 19 7,oP 20 (.bin .add (.t 19) (.c (.int .i64 1))),mV 7 20])))))) (sR [lA 78 4 2,oP 79 (.build [i0,i0,i0,i0,i0,i0,s0] []),nP (.sto 4 (.t 4) (.t 78)),nP (.sto 7 (.t 5) (.t 79)),oP 6 (.mv (.c (.bool false)))] .ret))
theorem dg176:Dg Tryz.prog 176 Tryz.f176 ic176 [(.cell 4 4 true),(.cell 5 7 true),(.t 6)]:=⟨Tryz.func176,by kernel_rfl,by kernel_rfl⟩
theorem x176 {X:List (E×E)} (w:M.World) (p:Pk) (hw:WX X w) (hp:PkP p):FnP Tryz.prog G 176 0 [.arr 47 10 (w.convs.map Conv.row),.arr 88 3 (w.door.map.map Pair.row),.arr 181 8 (w.door.flows.map Flw.row),.arr 70 7 (w.nets.map Pk.row)] [.agg [.own 0 w.convs.length,.own 1 w.door.map.length,.own 2 w.door.flows.length,.own 3 w.nets.length],.agg [.int .i64 p.kind,.int .i64 p.frm.a,.int .i64 p.frm.p,.int .i64 p.to.a,.int .i64 p.to.p,.int .i64 p.at_,.str p.text]] (passA (hostR w p)):=by
 refine mP dg176 Tryz.ntmps176 ⟨_,_,rfl,rfl⟩ ?_
 have hml:=(mapOk_ports (doorOk_iff.1 hw.door).1).2
 have hcl:=hw.cl
 simp only[ic176,go_sem]
 refine loopN (fun k:Nat=>⟨getL [(2,.pv 1002 0),(3,.pv 1003 0),(4,.pv 1004 0),(5,.pv 1005 0),(7,.int .i64 (k:Int))],getH [(1002,.var 41 [.own 0 w.convs.length,.own 1 w.door.map.length,.own 2 w.door.flows.length,.own 3 w.nets.length]),(1003,.var 70 [.int .i64 p.kind,.int .i64 p.frm.a,.int .i64 p.frm.p,.int .i64 p.to.a,.int .i64 p.to.p,.int .i64 p.at_,.str p.text]),(1004,.var 41 [.nils,.nils,.nils,.nils]),(1005,.var 70 [.int .i64 0,.int .i64 0,.int .i64 0,.int .i64 0,.int .i64 0,.int .i64 0,.str []]),(0,.arr 47 10 (w.convs.map Conv.row)),(1,.arr 88 3 (w.door.map.map Pair.row)),(2,.arr 181 8 (w.door.flows.map Flw.row)),(3,.arr 70 7 (w.nets.map Pk.row))]⟩)
  (fun k=>w.convs.length - k) (fun k=>k≤w.convs.length∧(w.convs.take k).any (matchC w p)=false) 0 (leQ []) ⟨Nat.zero_le _,by simp⟩ ?_
 intro k ⟨hk,ha⟩
 simp only[go_sem]
 by_cases h:(k:Int)<w.convs.length
 ·have hil:k<w.convs.length:=by omega
  have hg:w.convs.getD k default=w.convs[k]:=by simp[List.getD,hil]
  have hat:=hostR_at (w:=w) (p:=p) hil ha
  have hstep:matchC w p w.convs[k]=false→(w.convs.take (k+1)).any (matchC w p)=false:=fun hm=>by
   rw[List.take_add_one,zE hil]
   simp only[Option.toList_some,List.any_append,ha,List.any_cons,List.any_nil,Bool.or_false,Bool.false_or,hm]
  have hB:=convOk_B (hw.cv _ (List.getElem_mem hil))
  rw[matchC_e] at hat hstep
  simp only[eq_comm (a:=p.frm.p)] at hat hstep
  simp only[eq_true h,go_sem]
  generalize hc:w.convs[k]=c at *
  generalize hinw:(decide (p.to=c.ins)&&decide (p.frm=c.out))=inw at *
  have g1:=fun b=>c193 c b p hB hp
  have g2:=c144 w c.ins (by omega)
  with_reducible repeat' (first|refine br ?_ ?_<;>intro h e<;>(try simp only[e,go_sem,getD_mp hil,hg,hc,E.ext_iff'])<;>clear e|rw[i64w (by omega)]|refine sd ?_<;>try simp only[go_sem,getD_mp hil,hg,hc,E.ext_iff']|(first|refine cr (c110 ..) ?_|refine cf (g2 ..) [0,1,2,3] ?_|refine cr (g1 ..) ?_)<;>try simp only[go_sem,getD_mp hil,hg,hc,E.ext_iff']|fail)
  all_goals clear g1 g2
  all_goals first
   | (refine⟨k+1,by omega,⟨by omega,hstep ?_⟩,(leQ [])⟩
      simp_all;done)
   | (have hh:=hat (by simp_all)
      have hi:inw=true:=by simp_all
      rw[hi] at hh
      refine passRet (w:={ w with convs:=w.convs.set k (hear c true p).1 }) (q:=(hear c true p).2) 0 1 2 3 hh ?_ ?_ ?_ ?_ ?_ ?_ ?_ ?_ ?_ (by decide)
      all_goals simp only[go_sem,List.map_set,List.length_set,getD_mp hil,hg]
      done)
   | (have hh:=hat (by simp_all)
      have hi:inw=false:=by simp_all
      rw[hi] at hh
      refine passRet (w:={ w with convs:=w.convs.set k (hear c false p).1 }) (q:=(hear c false p).2) 0 1 2 3 hh ?_ ?_ ?_ ?_ ?_ ?_ ?_ ?_ ?_ (by decide)
      all_goals simp only[go_sem,List.map_set,List.length_set,getD_mp hil,hg]
      done)
 ·simp only[eq_false h,go_sem]
  have:k=w.convs.length:=by omega
  subst this
  rw[List.take_length] at ha
  rw[hostR_no ha]
  refine passRet (q:=none) 0 1 2 3 rfl ?_ ?_ ?_ ?_ ?_ ?_ ?_ ?_ ?_ (by decide)<;>simp only[go_sem,Option.isSome_none,Option.getD_none,Pk.zero,E.zero]
def ic145:IC:=sR [oP 2 (.box 41 (.t 0)),oP 3 (.box 70 (.t 1)),oP 4 (.alloc 41 [.nils,.nils,.nils,.nils]),oP 5 (.alloc 70 [i0,i0,i0,i0,i0,i0,s0]),oP 6 (.mv (.c (.bool false)))] (.seq (sR [fD 10 3 3,lA 11 2 10,oP 12 (.call 110 [.t 11]),mV 13 12,⟨some 14,some (13,false),.fad 1 (.t 3)⟩,⟨some 15,some (13,false),.ld 2 true (.t 14)⟩,⟨some 16,some (13,false),.call 94 [.t 15]⟩,oP 17 (.pick (.t 13) (.c (.bool true)) (.t 16))] (.cond (.t 17) (sR [fD 19 1 2,lA 20 2 19,lA 21 7 3,oP 22 (.call 175 [.t 20,.t 21]),mV 18 22,eX 23 18 0,eX 24 18 1,eX 25 18 2,oP 7 (.alloc 38 [.nils,.nils]),oP 8 (.alloc 70 [i0,i0,i0,i0,i0,i0,s0]),nP (.sto 2 (.t 7) (.t 23)),nP (.sto 7 (.t 8) (.t 24)),mV 9 25] (sR [lA 26 2 7,fD 27 1 2,nP (.sto 2 (.t 27) (.t 26))] (.seq (.drw [0,0,0,1,11,31] [(0,lA 28 4 2),(1,lA 29 7 8),(2,mV 30 9),(3,nP (.sto 4 (.t 4) (.t 28))),(4,nP (.sto 7 (.t 5) (.t 29))),(5,mV 6 30)]) .ret))) .skip)) (sR [lA 31 4 2,lA 32 7 3,oP 33 (.call 176 [.t 31,.t 32]),eX 34 33 0,eX 35 33 1,eX 36 33 2,nP (.sto 4 (.t 4) (.t 34)),nP (.sto 7 (.t 5) (.t 35)),mV 6 36] .ret))
theorem dg145:Dg Tryz.prog 145 Tryz.f145 ic145 [(.cell 4 4 true),(.cell 5 7 true),(.t 6)]:=⟨Tryz.func145,by kernel_rfl,by kernel_rfl⟩
theorem x145 {X:List (E×E)} (w:M.World) (p:Pk) (hw:WX X w) (hp:PkP p):FnP Tryz.prog G 145 0 [.arr 47 10 (w.convs.map Conv.row),.arr 88 3 (w.door.map.map Pair.row),.arr 181 8 (w.door.flows.map Flw.row),.arr 70 7 (w.nets.map Pk.row)] [.agg [.own 0 w.convs.length,.own 1 w.door.map.length,.own 2 w.door.flows.length,.own 3 w.nets.length],.agg [.int .i64 p.kind,.int .i64 p.frm.a,.int .i64 p.frm.p,.int .i64 p.to.a,.int .i64 p.to.p,.int .i64 p.at_,.str p.text]] (passA (carry w p)):=by
 refine mP dg145 Tryz.ntmps145 ⟨_,_,rfl,rfl⟩ ?_
 have hdoor:(p.to.door=true∨p.frm.inside=true)→carry w p=({ w with door:=(dPass w.door p).1 },(dPass w.door p).2):=fun h=>carry_door (by simpa using h)
 have hhost:p.to.door=false→p.frm.inside=false→carry w p=hostR w p:=fun h1 h2=>carry_host (by simp[h1,h2])
 simp only[ic145,go_sem]
 with_reducible repeat' (first|refine br ?_ ?_<;>intro h e<;>(try simp only[e,go_sem])<;>clear e|rw[i64w (by omega)]|refine sd ?_<;>try simp only[go_sem]|(first|refine cr (c110 ..) ?_|refine cr (c94 ..) ?_)<;>try simp only[go_sem]|fail)
 ·refine callU (c175 w.door p hw.door hw.flows3 hp) [1,2] [] 22 2 (by simp only[go_sem];first|done|simp) (by simp only[go_sem];first|done|simp) (by simp) (by simp) (by rintro _ _ ⟨rfl,rfl⟩;simp) (by intro i hi;rcases(show i=0∨i=1 by omega) with rfl|rfl<;>simp only[go_sem]) ?_
  rintro _ _ ⟨rfl,rfl⟩
  simp only[go_sem]
  with_reducible repeat' (first|refine br ?_ ?_<;>intro h e<;>(try simp only[e,go_sem])<;>clear e|rw[i64w (by omega)]|refine sd ?_<;>try simp only[go_sem]|fail)
  refine passRet (w:={ w with door:=(dPass w.door p).1 }) (q:=(dPass w.door p).2) 0 102200 102201 3 (hdoor (.inl (by assumption))) ?_ ?_ ?_ ?_ ?_ ?_ ?_ ?_ ?_ (by decide)<;>simp only[go_sem]
 ·refine callU (c175 w.door p hw.door hw.flows3 hp) [1,2] [] 22 2 (by simp only[go_sem];first|done|simp) (by simp only[go_sem];first|done|simp) (by simp) (by simp) (by rintro _ _ ⟨rfl,rfl⟩;simp) (by intro i hi;rcases(show i=0∨i=1 by omega) with rfl|rfl<;>simp only[go_sem]) ?_
  rintro _ _ ⟨rfl,rfl⟩
  simp only[go_sem]
  with_reducible repeat' (first|refine br ?_ ?_<;>intro h e<;>(try simp only[e,go_sem])<;>clear e|rw[i64w (by omega)]|refine sd ?_<;>try simp only[go_sem]|fail)
  refine passRet (w:={ w with door:=(dPass w.door p).1 }) (q:=(dPass w.door p).2) 0 102200 102201 3 (hdoor (.inr (by assumption))) ?_ ?_ ?_ ?_ ?_ ?_ ?_ ?_ ?_ (by decide)<;>simp only[go_sem]
 ·refine callU (x176 w p hw hp) [0,1,2,3] [] 33 4 (by simp only[go_sem];first|done|simp) (by simp only[go_sem];first|done|simp) (by simp) (by simp) (by rintro _ _ ⟨rfl,rfl⟩;simp) (by intro i hi;rcases(show i=0∨i=1∨i=2∨i=3 by omega) with rfl|rfl|rfl|rfl<;>simp only[go_sem]) ?_
  rintro _ _ ⟨rfl,rfl⟩
  simp only[go_sem]
  with_reducible repeat' (first|refine br ?_ ?_<;>intro h e<;>(try simp only[e,go_sem])<;>clear e|rw[i64w (by omega)]|refine sd ?_<;>try simp only[go_sem]|fail)
  refine passRet (w:=(hostR w p).1) (q:=(hostR w p).2) 103300 103301 103302 103303 (hhost (by assumption) (by assumption)) ?_ ?_ ?_ ?_ ?_ ?_ ?_ ?_ ?_ (by decide)<;>simp only[go_sem]
theorem PkP.ofNet {X:List (E×E)} {w:M.World} (h:WX X w) {k:Nat} {p:Pk} (hp:w.nets[k]?=some p):PkP p:=(h.net p (List.mem_of_getElem? hp)).pk
def netR (w:M.World) (k a:Int):M.World :=
 if within a 0 ((w.nets.length:Int) - 1) then
  if k=5 then send w w.nets[a.toNat]?
  else if k=4 then { w with nets:=w.nets.eraseIdx a.toNat }
  else match w.nets[a.toNat]? with
   | some p=>send (carry { w with nets:=w.nets.eraseIdx a.toNat } p).1 (carry { w with nets:=w.nets.eraseIdx a.toNat } p).2
   | none=>w
 else w
theorem netR_is (w:M.World) (e:Ev) (h:e.kind=3∨e.kind=4∨e.kind=5):wDo w e=netR w e.kind e.a:=by
 unfold wDo netR
 rcases h with h|h|h<;>simp only[h]<;>simp<;>rfl
def rowV (sz c o n:Nat):Hs→Option (List (List V)×List Nat)
 | .arr _ s rows=>if s=sz then guardP (o+n≤rows.length) (some ((rows.drop o).take n,[c])) else none
 | _=>none
theorem rowO_view (h:Nat→Hs) (sz c o n):rowO h sz (.view c o n)=rowV sz c o n (h c):=by simp only[rowO,rowsF,rowV];cases h c<;>rfl
theorem rowV_a {sz c o n ty rows} (hl:o+n≤rows.length):rowV sz c o n (.arr ty sz rows)=some ((rows.drop o).take n,[c]):=by
 simp[rowV,guardP,hl]
def ic107:IC:=sR [oP 2 (.box 41 (.t 0)),oP 3 (.box 83 (.t 1)),oP 4 (.alloc 41 [.nils,.nils,.nils,.nils])] (.seq (sR [fD 9 1 3,lD 10 1 9,fD 11 3 2,lD 12 1 11,oP 13 (.len (.t 12)),oP 14 (.bin .sub (.t 13) (.c (.int .i64 1))),oP 15 (.call 100 [.t 10,.c i0,.t 14]),oP 16 (.un .not (.t 15))] (.cond (.t 16) (sR [lA 17 4 2,nP (.sto 4 (.t 4) (.t 17))] .ret) .skip)) (sR [fD 18 3 2,lD 19 1 18,fD 20 1 3,lD 21 1 20,oP 22 (.iad 7 (.t 19) (.t 21)),lA 23 7 22,oP 5 (.alloc 70 [i0,i0,i0,i0,i0,i0,s0]),nP (.sto 7 (.t 5) (.t 23))] (.seq (sR [fD 24 0 3,lD 25 1 24,oP 26 (.bin .eql (.t 25) (.c (.int .i64 5)))] (.cond (.t 26) (sR [lA 27 4 2,lA 28 7 5,oP 29 (.call 106 [.t 27,.t 28,.c (.bool true)]),nP (.sto 4 (.t 4) (.t 29))] .ret) .skip)) (.seq (.drw [0,0,2,0,8,30,63,0,128,0,512,1536,3968,8191,16383,32767] [(0,oP 30 (.bsl 70 7 [])),(1,fD 31 3 2),(2,lD 32 1 31),(3,fD 33 1 3),(4,lD 34 1 33),(5,oP 35 (.slv 7 (.t 32) none (some (.t 34)))),(6,oP 36 (.app 70 7 (.t 30) (.t 35))),(7,fD 37 3 2),(8,lD 38 1 37),(9,fD 39 1 3),(10,lD 40 1 39),(11,oP 41 (.bin .add (.t 40) (.c (.int .i64 1)))),(12,oP 42 (.slv 7 (.t 38) (some (.t 41)) none)),(13,oP 43 (.app 70 7 (.t 36) (.t 42))),(14,fD 44 3 2),(15,nP (.sto 1 (.t 44) (.t 43)))]) (.seq (sR [fD 45 0 3,lD 46 1 45,oP 47 (.bin .eql (.t 46) (.c (.int .i64 4)))] (.cond (.t 47) (sR [lA 48 4 2,nP (.sto 4 (.t 4) (.t 48))] .ret) .skip)) (sR [lA 50 4 2,lA 51 7 5,oP 52 (.call 145 [.t 50,.t 51]),mV 49 52,eX 53 49 0,eX 54 49 1,eX 55 49 2,oP 6 (.alloc 41 [.nils,.nils,.nils,.nils]),oP 7 (.alloc 70 [i0,i0,i0,i0,i0,i0,s0]),nP (.sto 4 (.t 6) (.t 53)),nP (.sto 7 (.t 7) (.t 54)),mV 8 55] (sR [lA 56 4 6,lA 57 7 7,mV 58 8,oP 59 (.call 106 [.t 56,.t 57,.t 58]),nP (.sto 4 (.t 4) (.t 59))] .ret)))))))
theorem dg107:Dg Tryz.prog 107 Tryz.f107 ic107 [(.cell 4 4 true)]:=⟨Tryz.func107,by kernel_rfl,by kernel_rfl⟩
theorem x107 {X:List (E×E)} (w:M.World) (e:Ev) (hw:WX X w):FnP Tryz.prog G 107 0 [.arr 47 10 (w.convs.map Conv.row),.arr 88 3 (w.door.map.map Pair.row),.arr 181 8 (w.door.flows.map Flw.row),.arr 70 7 (w.nets.map Pk.row)] [.agg [.own 0 w.convs.length,.own 1 w.door.map.length,.own 2 w.door.flows.length,.own 3 w.nets.length],.agg [.int .i64 e.kind,.int .i64 e.a,.int .i64 e.b,.int .i64 e.c,.int .i64 e.pkt.kind,.int .i64 e.pkt.frm.a,.int .i64 e.pkt.frm.p,.int .i64 e.pkt.to.a,.int .i64 e.pkt.to.p,.int .i64 e.pkt.at_,.str e.pkt.text]] (worldA (netR w e.kind e.a)):=by
 refine mP dg107 Tryz.ntmps107 ⟨_,_,rfl,rfl⟩ ?_
 have hnl:=hw.nl
 simp only[ic107,go_sem]
 rw[i64w (by omega)]
 generalize hwi:within e.a 0 ((w.nets.length:Int) - 1)=b
 have hw2:b=true→0≤e.a∧e.a≤(w.nets.length:Int) - 1:=fun h=>M.within_iff.1 (hwi.trans h)
 refine callR (c100 e.a 0 ((w.nets.length:Int) - 1)) rfl rfl ?_
 rw[hwi]
 cases b<;>simp only[go_sem]
 ·have hx:netR w e.kind e.a=w:=by simp[netR,hwi]
  rw[hx]
  exact worldRet (c:=1004) 0 1 2 3 (by simp only[go_sem]) (by simp only[go_sem]) (by simp only[go_sem]) (by simp only[go_sem]) (by simp only[go_sem]) (by simp only[go_sem]) (by decide)
 have hw2:=hw2 rfl
 have hil:e.a.toNat<w.nets.length:=by omega
 have hg:w.nets.getD e.a.toNat default=w.nets[e.a.toNat]:=by simp[List.getD,hil]
 have hg2:w.nets[e.a.toNat]?=some w.nets[e.a.toNat]:=zE hil
 have hx5:e.kind=5→netR w e.kind e.a=send w (some w.nets[e.a.toNat]):=fun h=>by simp only[netR,hwi,if_true];rw[if_pos h,hg2]
 have hx4:e.kind=4→netR w e.kind e.a={ w with nets:=w.nets.eraseIdx e.a.toNat }:=fun h=>by simp only[netR,hwi,if_true];rw[if_neg (by omega),if_pos h]
 have hx3:e.kind≠5→e.kind≠4→netR w e.kind e.a=send (carry { w with nets:=w.nets.eraseIdx e.a.toNat } w.nets[e.a.toNat]).1 (carry { w with nets:=w.nets.eraseIdx e.a.toNat } w.nets[e.a.toNat]).2:=fun h h'=>by simp only[netR,hwi,if_true];rw[if_neg h,if_neg h',hg2]
 have hpk:=PkP.ofNet hw hg2
 have hwe:=hw.erase e.a.toNat
 have herase:w.nets.eraseIdx e.a.toNat=w.nets.take e.a.toNat++w.nets.drop (e.a.toNat+1):=List.eraseIdx_eq_take_drop_succ _ _
 generalize hp:w.nets[e.a.toNat]=p at *
 have rv1:rowV 7 3 0 (e.a.toNat - 0) (.arr 70 7 (w.nets.map Pk.row))=some ((w.nets.take e.a.toNat).map Pk.row,[3]):=by
  rw[rowV_a (by simp;omega)];simp[List.map_take]
 have rv2:rowV 7 3 (e.a+1).toNat (w.nets.length - (e.a+1).toNat) (.arr 70 7 (w.nets.map Pk.row))=some ((w.nets.drop (e.a.toNat+1)).map Pk.row,[3]):=by
  rw[rowV_a (by simp;omega)]
  have:(e.a+1).toNat=e.a.toNat+1:=by omega
  rw[this,←List.map_drop,←List.map_take,List.take_of_length_le (by simp)]
 with_reducible repeat' (first|refine br ?_ ?_<;>intro h e<;>(try simp only[e,go_sem,getD_mp hil,hg,hp,rowO_view,rv1,rv2,List.length_take,List.length_drop])<;>clear e|rw[i64w (by omega)]|refine sd ?_<;>try simp only[go_sem,getD_mp hil,hg,hp,rowO_view,rv1,rv2,List.length_take,List.length_drop]|fail)
 ·have c5:=c106 w p true (by omega)
  simp only[cond_true] at c5
  rw[hx5 h]
  refine callU c5 [0,1,2,3] [] 29 4 (by simp only[go_sem];first|done|simp) (by simp only[go_sem];first|done|simp) (by simp) (by simp) (by rintro _ _ ⟨rfl,rfl⟩;simp) (by intro i hi;rcases(show i=0∨i=1∨i=2∨i=3 by omega) with rfl|rfl|rfl|rfl<;>simp only[go_sem]) ?_
  rintro _ _ ⟨rfl,rfl⟩
  simp only[go_sem]
  with_reducible repeat' (first|refine br ?_ ?_<;>intro h e<;>(try simp only[e,go_sem])<;>clear e|rw[i64w (by omega)]|refine sd ?_<;>try simp only[go_sem]|fail)
  exact worldRet (c:=1004) 102900 102901 102902 102903 (by simp only[go_sem]) (by simp only[go_sem]) (by simp only[go_sem]) (by simp only[go_sem]) (by simp only[go_sem]) (by simp only[go_sem]) (by decide)
 ·have hlen:min e.a.toNat w.nets.length+(w.nets.length - (e.a.toNat+1))=(w.nets.eraseIdx e.a.toNat).length:=by rw[herase];simp
  have hrows:(w.nets.take e.a.toNat).map Pk.row++(w.nets.drop (e.a.toNat+1)).map Pk.row=(w.nets.eraseIdx e.a.toNat).map Pk.row:=by rw[herase,List.map_append]
  simp only[hlen,hrows]
  rw[hx4 h]
  exact worldRet (c:=1004) 0 1 2 1043 (by simp only[go_sem]) (by simp only[go_sem]) (by simp only[go_sem]) (by simp only[go_sem]) (by simp only[go_sem]) (by simp only[go_sem]) (by decide)
 ·have hlen:min e.a.toNat w.nets.length+(w.nets.length - (e.a.toNat+1))=(w.nets.eraseIdx e.a.toNat).length:=by rw[herase];simp
  have hrows:(w.nets.take e.a.toNat).map Pk.row++(w.nets.drop (e.a.toNat+1)).map Pk.row=(w.nets.eraseIdx e.a.toNat).map Pk.row:=by rw[herase,List.map_append]
  simp only[hlen,hrows]
  rw[hx3 (by assumption) (by assumption)]
  have hk:=(carry_X hwe ⟨hpk,fun hin=>(hw.net p (List.mem_of_getElem? hg2)).c hin⟩).1
  refine callU (x145 { w with nets:=w.nets.eraseIdx e.a.toNat } p hwe hpk) [0,1,2,1043] [] 52 4 (by simp only[go_sem];first|done|simp) (by simp only[go_sem];first|done|simp) (by simp) (by simp) (by rintro _ _ ⟨rfl,rfl⟩;simp) (by intro i hi;rcases(show i=0∨i=1∨i=2∨i=3 by omega) with rfl|rfl|rfl|rfl<;>simp only[go_sem]) ?_
  rintro _ _ ⟨rfl,rfl⟩
  simp only[go_sem]
  with_reducible repeat' (first|refine br ?_ ?_<;>intro h e<;>(try simp only[e,go_sem])<;>clear e|rw[i64w (by omega)]|refine sd ?_<;>try simp only[go_sem]|fail)
  generalize carry { w with nets:=w.nets.eraseIdx e.a.toNat } p=r at *
  obtain⟨v,o⟩:=r
  simp only at hk
  have hvn:=hk.nl
  simp only[go_sem]
  with_reducible repeat' (first|refine br ?_ ?_<;>intro h e<;>(try simp only[e,go_sem])<;>clear e|rw[i64w (by omega)]|refine sd ?_<;>try simp only[go_sem]|fail)
  refine callU (c106 v (o.getD .zero) o.isSome (by omega)) [105200,105201,105202,105203] [] 59 4 (by simp only[go_sem];first|done|simp) (by simp only[go_sem];first|done|simp) (by simp) (by simp) (by rintro _ _ ⟨rfl,rfl⟩;simp) (by intro i hi;rcases(show i=0∨i=1∨i=2∨i=3 by omega) with rfl|rfl|rfl|rfl<;>simp only[go_sem]) ?_
  rw[opt_b]
  rintro _ _ ⟨rfl,rfl⟩
  simp only[go_sem]
  with_reducible repeat' (first|refine br ?_ ?_<;>intro h e<;>(try simp only[e,go_sem])<;>clear e|rw[i64w (by omega)]|refine sd ?_<;>try simp only[go_sem]|fail)
  exact worldRet (c:=1004) 105900 105901 105902 105903 (by simp only[go_sem]) (by simp only[go_sem]) (by simp only[go_sem]) (by simp only[go_sem]) (by simp only[go_sem]) (by simp only[go_sem]) (by decide)
def ic59:IC:=sR [oP 2 (.box 41 (.t 0)),oP 3 (.box 83 (.t 1)),oP 4 (.alloc 41 [.nils,.nils,.nils,.nils])] (.seq (sR [fD 7 0 3,lD 8 1 7] (.block 0 (.seq (sR [oP 10 (.bin .eql (.t 8) (.c (.int .i64 1))),mV 9 10] (.cond (.t 9) .skip (.reg [oP 11 (.bin .eql (.t 8) (.c (.int .i64 2))),mV 9 11]))) (.cond (.t 9) (sR [lA 13 4 2,lA 14 11 3,oP 15 (.call 105 [.t 13,.t 14]),mV 12 15,eX 16 12 0,eX 17 12 1,oP 5 (.alloc 70 [i0,i0,i0,i0,i0,i0,s0]),nP (.sto 7 (.t 5) (.t 16)),mV 6 17] (sR [lA 18 4 2,lA 19 7 5,mV 20 6,oP 21 (.call 106 [.t 18,.t 19,.t 20]),nP (.sto 4 (.t 4) (.t 21))] .ret)) (.seq (sR [oP 23 (.bin .eql (.t 8) (.c (.int .i64 3))),mV 22 23] (.cond (.t 22) .skip (sR [oP 24 (.bin .eql (.t 8) (.c (.int .i64 4))),mV 22 24] (.cond (.t 22) .skip (.reg [oP 25 (.bin .eql (.t 8) (.c (.int .i64 5))),mV 22 25]))))) (.cond (.t 22) (sR [lA 26 4 2,lA 27 11 3,oP 28 (.call 107 [.t 26,.t 27]),nP (.sto 4 (.t 4) (.t 28))] .ret) (sR [oP 30 (.bin .eql (.t 8) (.c (.int .i64 6))),mV 29 30] (.cond (.t 29) (.seq (.drw [0,0,2,0,0,16,56,127,255] [(0,lA 31 4 2),(1,fD 32 4 3),(2,lA 33 7 32),(3,lA 34 4 2),(4,fD 35 4 3),(5,lA 36 7 35),(6,oP 37 (.call 108 [.t 34,.t 36])),(7,oP 38 (.call 106 [.t 31,.t 33,.t 37])),(8,nP (.sto 4 (.t 4) (.t 38)))]) .ret) .skip)))))))) (sR [lA 39 4 2,nP (.sto 4 (.t 4) (.t 39))] .ret))
theorem dg59:Dg Tryz.prog 59 Tryz.f59 ic59 [(.cell 4 4 true)]:=⟨Tryz.func59,by kernel_rfl,by kernel_rfl⟩
theorem x59 {X:List (E×E)} (w:M.World) (e:Ev) (hw:WX X w) (ht:e.pkt.text.length≤2000000):FnP Tryz.prog G 59 0 [.arr 47 10 (w.convs.map Conv.row),.arr 88 3 (w.door.map.map Pair.row),.arr 181 8 (w.door.flows.map Flw.row),.arr 70 7 (w.nets.map Pk.row)] [.agg [.own 0 w.convs.length,.own 1 w.door.map.length,.own 2 w.door.flows.length,.own 3 w.nets.length],.agg [.int .i64 e.kind,.int .i64 e.a,.int .i64 e.b,.int .i64 e.c,.int .i64 e.pkt.kind,.int .i64 e.pkt.frm.a,.int .i64 e.pkt.frm.p,.int .i64 e.pkt.to.a,.int .i64 e.pkt.to.p,.int .i64 e.pkt.at_,.str e.pkt.text]] (worldA (wDo w e)):=by
 refine mP dg59 Tryz.ntmps59 ⟨_,_,rfl,rfl⟩ ?_
 have hnl:=hw.nl
 have hcl:=hw.cl
 have hml:=(mapOk_ports (doorOk_iff.1 hw.door).1).2
 have hB:∀c∈w.convs,c.up.length≤2000000∧c.down.length≤2000000:=fun c hc=>by
  have hb:=convOk_B (hw.cv c hc)
  have h1:=hb.up
  have h2:=hb.down
  omega
 simp only[ic59,go_sem]
 with_reducible repeat' (first|refine br ?_ ?_<;>intro h e<;>(try simp only[e,go_sem])<;>clear e|rw[i64w (by omega)]|refine sd ?_<;>try simp only[go_sem]|fail)
 ·refine callF (c105 w e (by omega) (by omega) hB) [0,1,2,3] false (by simp only[go_sem];first|done|simp[E.row,Pc.row,Pair.row,Part.row,Flw.row,Pk.row,Conv.row]) (by simp only[List.mem_cons,List.not_mem_nil,or_false];rintro c (rfl|rfl|rfl|rfl)<;>simp only[go_sem]) rfl (.inr rfl) ?_
  have hx:wDo w e=send w (sayW w (decide (e.kind=1)) e.a e.b e.c):=by simp[wDo,h]
  rw[hx]
  generalize sayW w (decide (e.kind=1)) e.a e.b e.c=o
  simp only[go_sem]
  with_reducible repeat' (first|refine br ?_ ?_<;>intro h e<;>(try simp only[e,go_sem])<;>clear e|rw[i64w (by omega)]|refine sd ?_<;>try simp only[go_sem]|fail)
  refine callU (c106 w (o.getD .zero) o.isSome (by omega)) [0,1,2,3] [] 21 4 (by simp only[go_sem];first|done|simp) (by simp only[go_sem];first|done|simp) (by simp) (by simp) (by rintro _ _ ⟨rfl,rfl⟩;simp) (by intro i hi;rcases(show i=0∨i=1∨i=2∨i=3 by omega) with rfl|rfl|rfl|rfl<;>simp only[go_sem]) ?_
  rw[opt_b]
  rintro _ _ ⟨rfl,rfl⟩
  simp only[go_sem]
  with_reducible repeat' (first|refine br ?_ ?_<;>intro h e<;>(try simp only[e,go_sem])<;>clear e|rw[i64w (by omega)]|refine sd ?_<;>try simp only[go_sem]|fail)
  exact worldRet (c:=1004) 102100 102101 102102 102103 (by simp only[go_sem]) (by simp only[go_sem]) (by simp only[go_sem]) (by simp only[go_sem]) (by simp only[go_sem]) (by simp only[go_sem]) (by decide)
 ·refine callF (c105 w e (by omega) (by omega) hB) [0,1,2,3] false (by simp only[go_sem];first|done|simp[E.row,Pc.row,Pair.row,Part.row,Flw.row,Pk.row,Conv.row]) (by simp only[List.mem_cons,List.not_mem_nil,or_false];rintro c (rfl|rfl|rfl|rfl)<;>simp only[go_sem]) rfl (.inr rfl) ?_
  have hx:wDo w e=send w (sayW w (decide (e.kind=1)) e.a e.b e.c):=by simp[wDo,h]
  rw[hx]
  generalize sayW w (decide (e.kind=1)) e.a e.b e.c=o
  simp only[go_sem]
  with_reducible repeat' (first|refine br ?_ ?_<;>intro h e<;>(try simp only[e,go_sem])<;>clear e|rw[i64w (by omega)]|refine sd ?_<;>try simp only[go_sem]|fail)
  refine callU (c106 w (o.getD .zero) o.isSome (by omega)) [0,1,2,3] [] 21 4 (by simp only[go_sem];first|done|simp) (by simp only[go_sem];first|done|simp) (by simp) (by simp) (by rintro _ _ ⟨rfl,rfl⟩;simp) (by intro i hi;rcases(show i=0∨i=1∨i=2∨i=3 by omega) with rfl|rfl|rfl|rfl<;>simp only[go_sem]) ?_
  rw[opt_b]
  rintro _ _ ⟨rfl,rfl⟩
  simp only[go_sem]
  with_reducible repeat' (first|refine br ?_ ?_<;>intro h e<;>(try simp only[e,go_sem])<;>clear e|rw[i64w (by omega)]|refine sd ?_<;>try simp only[go_sem]|fail)
  exact worldRet (c:=1004) 102100 102101 102102 102103 (by simp only[go_sem]) (by simp only[go_sem]) (by simp only[go_sem]) (by simp only[go_sem]) (by simp only[go_sem]) (by simp only[go_sem]) (by decide)
 ·rw[netR_is w e (.inl h)]
  refine callU (x107 w e hw) [0,1,2,3] [] 28 4 (by simp only[go_sem];first|done|simp) (by simp only[go_sem];first|done|simp) (by simp) (by simp) (by rintro _ _ ⟨rfl,rfl⟩;simp) (by intro i hi;rcases(show i=0∨i=1∨i=2∨i=3 by omega) with rfl|rfl|rfl|rfl<;>simp only[go_sem]) ?_
  rintro _ _ ⟨rfl,rfl⟩
  simp only[go_sem]
  with_reducible repeat' (first|refine br ?_ ?_<;>intro h e<;>(try simp only[e,go_sem])<;>clear e|rw[i64w (by omega)]|refine sd ?_<;>try simp only[go_sem]|fail)
  exact worldRet (c:=1004) 102800 102801 102802 102803 (by simp only[go_sem]) (by simp only[go_sem]) (by simp only[go_sem]) (by simp only[go_sem]) (by simp only[go_sem]) (by simp only[go_sem]) (by decide)
 ·rw[netR_is w e (.inr (.inl h))]
  refine callU (x107 w e hw) [0,1,2,3] [] 28 4 (by simp only[go_sem];first|done|simp) (by simp only[go_sem];first|done|simp) (by simp) (by simp) (by rintro _ _ ⟨rfl,rfl⟩;simp) (by intro i hi;rcases(show i=0∨i=1∨i=2∨i=3 by omega) with rfl|rfl|rfl|rfl<;>simp only[go_sem]) ?_
  rintro _ _ ⟨rfl,rfl⟩
  simp only[go_sem]
  with_reducible repeat' (first|refine br ?_ ?_<;>intro h e<;>(try simp only[e,go_sem])<;>clear e|rw[i64w (by omega)]|refine sd ?_<;>try simp only[go_sem]|fail)
  exact worldRet (c:=1004) 102800 102801 102802 102803 (by simp only[go_sem]) (by simp only[go_sem]) (by simp only[go_sem]) (by simp only[go_sem]) (by simp only[go_sem]) (by simp only[go_sem]) (by decide)
 ·rw[netR_is w e (.inr (.inr h))]
  refine callU (x107 w e hw) [0,1,2,3] [] 28 4 (by simp only[go_sem];first|done|simp) (by simp only[go_sem];first|done|simp) (by simp) (by simp) (by rintro _ _ ⟨rfl,rfl⟩;simp) (by intro i hi;rcases(show i=0∨i=1∨i=2∨i=3 by omega) with rfl|rfl|rfl|rfl<;>simp only[go_sem]) ?_
  rintro _ _ ⟨rfl,rfl⟩
  simp only[go_sem]
  with_reducible repeat' (first|refine br ?_ ?_<;>intro h e<;>(try simp only[e,go_sem])<;>clear e|rw[i64w (by omega)]|refine sd ?_<;>try simp only[go_sem]|fail)
  exact worldRet (c:=1004) 102800 102801 102802 102803 (by simp only[go_sem]) (by simp only[go_sem]) (by simp only[go_sem]) (by simp only[go_sem]) (by simp only[go_sem]) (by simp only[go_sem]) (by decide)
 ·have hx:wDo w e=send w (bif stranger w e.pkt then some e.pkt else none):=by
   simp only[wDo,h]
   cases stranger w e.pkt<;>simp[send]
  rw[hx]
  refine callF (c108 w e.pkt (by omega) ht) [0,1,2,3] false (by simp only[go_sem];first|done|simp[E.row,Pc.row,Pair.row,Part.row,Flw.row,Pk.row,Conv.row]) (by simp only[List.mem_cons,List.not_mem_nil,or_false];rintro c (rfl|rfl|rfl|rfl)<;>simp only[go_sem]) rfl (.inr rfl) ?_
  generalize stranger w e.pkt=o
  simp only[go_sem]
  with_reducible repeat' (first|refine br ?_ ?_<;>intro h e<;>(try simp only[e,go_sem])<;>clear e|rw[i64w (by omega)]|refine sd ?_<;>try simp only[go_sem]|fail)
  refine callU (c106 w e.pkt o (by omega)) [0,1,2,3] [] 38 4 (by simp only[go_sem];first|done|simp) (by simp only[go_sem];first|done|simp) (by simp) (by simp) (by rintro _ _ ⟨rfl,rfl⟩;simp) (by intro i hi;rcases(show i=0∨i=1∨i=2∨i=3 by omega) with rfl|rfl|rfl|rfl<;>simp only[go_sem]) ?_
  rintro _ _ ⟨rfl,rfl⟩
  simp only[go_sem]
  with_reducible repeat' (first|refine br ?_ ?_<;>intro h e<;>(try simp only[e,go_sem])<;>clear e|rw[i64w (by omega)]|refine sd ?_<;>try simp only[go_sem]|fail)
  exact worldRet (c:=1004) 103800 103801 103802 103803 (by simp only[go_sem]) (by simp only[go_sem]) (by simp only[go_sem]) (by simp only[go_sem]) (by simp only[go_sem]) (by simp only[go_sem]) (by decide)
 ·have hx:wDo w e=w:=by simp only[wDo];simp[*]
  rw[hx]
  exact worldRet (c:=1004) 0 1 2 3 (by simp only[go_sem]) (by simp only[go_sem]) (by simp only[go_sem]) (by simp only[go_sem]) (by simp only[go_sem]) (by simp only[go_sem]) (by decide)
theorem c59 (w:M.World) (e:Ev) (hw:WI w) (ht:e.pkt.text.length≤2000000):FnP Tryz.prog G 59 0 [.arr 47 10 (w.convs.map Conv.row),.arr 88 3 (w.door.map.map Pair.row),.arr 181 8 (w.door.flows.map Flw.row),.arr 70 7 (w.nets.map Pk.row)] [.agg [.own 0 w.convs.length,.own 1 w.door.map.length,.own 2 w.door.flows.length,.own 3 w.nets.length],.agg [.int .i64 e.kind,.int .i64 e.a,.int .i64 e.b,.int .i64 e.c,.int .i64 e.pkt.kind,.int .i64 e.pkt.frm.a,.int .i64 e.pkt.frm.p,.int .i64 e.pkt.to.a,.int .i64 e.pkt.to.p,.int .i64 e.pkt.at_,.str e.pkt.text]] (worldA (wDo w e)) :=
 x59 w e hw.x ht
def ic55:IC:=sR [oP 2 (.mv (.c (.bool false)))] (.seq (sR [oP 3 (.mv (.c i0))] (.block 0 (.loop (.seq (sR [mV 5 3,mV 6 0,oP 7 (.len (.t 6)),bN 8 .lss 5 7] (.cond (.t 8) .skip (.exit 0))) (.seq (.block 1 (.seq (sR [oP 4 (.mv (.c i0))] (.block 2 (.loop (.seq (sR [mV 11 4,mV 12 3,bN 13 .lss 11 12] (.cond (.t 13) .skip (.exit 2))) (.seq (.block 3 (.seq (.drw [0,0,3,7,15,0,0,96,224,480,1023,2047,4095,4095,16383,32767,65535,4095,4095,397311,921599,1970175,4194303,8388607] [(0,mV 16 0),(1,mV 17 4),(2,oP 18 (.iad 10 (.t 16) (.t 17))),(3,fD 19 0 18),(4,lA 20 2 19),(5,mV 21 0),(6,mV 22 3),(7,oP 23 (.iad 10 (.t 21) (.t 22))),(8,fD 24 0 23),(9,lA 25 2 24),(10,oP 26 (.eqs false [.i,.i] (.t 20) (.t 25))),(11,mV 27 26),(12,⟨some 28,some (27,false),.mv (.t 0)⟩),(13,⟨some 29,some (27,false),.mv (.t 4)⟩),(14,⟨some 30,some (27,false),.iad 10 (.t 28) (.t 29)⟩),(15,⟨some 31,some (27,false),.fad 2 (.t 30)⟩),(16,⟨some 32,some (27,false),.ld 2 true (.t 31)⟩),(17,⟨some 33,some (27,false),.mv (.t 0)⟩),(18,⟨some 34,some (27,false),.mv (.t 3)⟩),(19,⟨some 35,some (27,false),.iad 10 (.t 33) (.t 34)⟩),(20,⟨some 36,some (27,false),.fad 2 (.t 35)⟩),(21,⟨some 37,some (27,false),.ld 2 true (.t 36)⟩),(22,⟨some 38,some (27,false),.eqs false [.i,.i] (.t 32) (.t 37)⟩),(23,oP 39 (.pick (.t 27) (.c (.bool true)) (.t 38)))]) (.cond (.t 39) (sR [oP 2 (.mv (.c (.bool false)))] .ret) .skip))) (.reg [mV 14 4,oP 15 (.bin .add (.t 14) (.c (.int .i64 1))),mV 4 15])))))) (sR [mV 40 0,mV 41 3,oP 42 (.iad 10 (.t 40) (.t 41)),lA 43 10 42,oP 44 (.call 98 [.t 43]),oP 45 (.un .not (.t 44))] (.cond (.t 45) (sR [oP 2 (.mv (.c (.bool false)))] .ret) .skip)))) (.reg [mV 9 3,oP 10 (.bin .add (.t 9) (.c (.int .i64 1))),mV 3 10])))))) (sR [mV 46 0,oP 47 (.len (.t 46)),oP 48 (.bin .leq (.t 47) (.c (.int .i64 2))),mV 2 48] .ret))
theorem dg55:Dg Tryz.prog 55 Tryz.f55 ic55 [(.t 2)]:=⟨Tryz.func55,by kernel_rfl,by kernel_rfl⟩
theorem c55 (cs:List Conv) (hl:cs.length≤2000000) (hB:∀c∈cs,(c.up.length≤2000000∧c.down.length≤2000000)∧c.upGot.length≤2000000∧c.downGot.length≤2000000):FnR Tryz.prog G 55 [.sl 10 (cs.map Conv.row)] (.bool (together cs)):=by
 refine mF dg55 Tryz.ntmps55 ?_
 simp only[ic55,go_sem]
 refine loopN (fun i:Nat=>⟨getL [(0,.sl 10 (cs.map Conv.row)),(3,.int .i64 (i:Int))],getH []⟩) (fun i=>cs.length - i) (fun i=>i≤cs.length∧∀j,j<i→okConv cs j=true) 0 (leQ []) ⟨Nat.zero_le _,by omega⟩ ?_
 intro i ⟨hi,ha⟩
 simp only[go_sem]
 by_cases h:(i:Int)<cs.length
 ·have hil:i<cs.length:=by omega
  have hg:cs.getD i default=cs[i]:=by simp[List.getD,hil]
  have hok:=okConv_i hil
  obtain⟨⟨b1,b2⟩,b3,b4⟩:=hB _ (List.getElem_mem hil)
  simp only[eq_true h,go_sem]
  refine loopN (fun k:Nat=>⟨getL [(0,.sl 10 (cs.map Conv.row)),(3,.int .i64 (i:Int)),(4,.int .i64 (k:Int))],getH []⟩) (fun k=>i - k) (fun k=>k≤i∧(cs.take k).any (fun o=>decide (o.ins=cs[i].ins)||decide (o.out=cs[i].out))=false) 0 (leQ []) ⟨Nat.zero_le _,by simp⟩ ?_
  intro k ⟨hk,hka⟩
  simp only[go_sem]
  by_cases h2:(k:Int)<i
  ·have hkl:k<cs.length:=by omega
   have hgk:cs.getD k default=cs[k]:=by simp[List.getD,hkl]
   simp only[eq_true h2,go_sem]
   have bad:(cs[k].ins=cs[i].ins∨cs[k].out=cs[i].out)→together cs=false:=fun hb=>okConv_b hil (by
    have:(cs.take i).any (fun o=>decide (o.ins=cs[i].ins)||decide (o.out=cs[i].out))=true:=List.any_eq_true.2 ⟨cs[k],List.mem_iff_getElem?.2 ⟨k,by rw[List.getElem?_take,if_pos (by omega)];exact zE hkl⟩,by simpa using hb⟩
    rw[hok,this];simp)
   with_reducible repeat' (first|refine br ?_ ?_<;>intro h e<;>(try simp only[e,go_sem,hg,hgk,E.ext_iff'])<;>clear e|rw[i64w (by omega)]|refine sd ?_<;>try simp only[go_sem,hg,hgk,E.ext_iff']|fail)
   ·exact bad (.inl (by assumption))
   ·exact bad (.inr (by assumption))
   ·refine⟨k+1,by omega,⟨by omega, ?_⟩,(leQ [])⟩
    rw[List.take_add_one,zE hkl]
    simp only[Option.toList_some,List.any_append,hka,List.any_cons,List.any_nil,Bool.or_false,Bool.false_or,Bool.or_eq_false_iff,decide_eq_false_iff_not]
    exact⟨by assumption,by assumption⟩
  ·simp only[eq_false h2,go_sem]
   obtain rfl:k=i:=by omega
   have c1:=c98 cs[k] b1 b2 b3 b4
   with_reducible repeat' (first|refine br ?_ ?_<;>intro h e<;>(try simp only[e,go_sem,hg])<;>clear e|rw[i64w (by omega)]|refine sd ?_<;>try simp only[go_sem,hg]|(first|refine cr (c1 ..) ?_)<;>try simp only[go_sem,hg]|fail)
   ·refine⟨k+1,by omega,⟨by omega,fun j hj=>?_⟩,(leQ [])⟩
    rcases Nat.lt_or_ge j k with hjk|hjk
    ·exact ha j hjk
    ·obtain rfl:j=k:=by omega
     rw[hok,hka];simp[*]
   ·exact okConv_b hil (by rw[hok];simp[*])
 ·simp only[eq_false h,go_sem]
  have:i=cs.length:=by omega
  subst this
  with_reducible repeat' (first|refine br ?_ ?_<;>intro h e<;>(try simp only[e,go_sem])<;>clear e|rw[i64w (by omega)]|refine sd ?_<;>try simp only[go_sem]|fail)
  have h1:=together_iff (cs:=cs)
  by_cases h2:cs.length≤2
  ·rw[h1.2 ⟨h2,ha⟩];exact(decide_eq_true (by omega)).symm
  ·have:together cs=false:=by
    cases ht:together cs with
    | false=>rfl
    | true=>exact absurd (h1.1 ht).1 h2
   rw[this];exact(decide_eq_false (by omega)).symm
def newA (o:Option M.World) (r:V) (out:List Hs):Prop:=(∃w,o=some w∧r=.tup [.agg [.own 0 w.convs.length,.own 1 w.door.map.length,.own 2 w.door.flows.length,.own 3 w.nets.length],.bool true]∧out=[.arr 47 10 (w.convs.map Conv.row),.arr 88 3 (w.door.map.map Pair.row),.arr 181 8 (w.door.flows.map Flw.row),.arr 70 7 (w.nets.map Pk.row)])∨(o=none∧r=.tup [.agg [.nils,.nils,.nils,.nils],.bool false]∧out=[])
theorem newA_ex (o:Option M.World):∃r out,newA o r out:=by
 cases o with
 | none=>exact⟨_,_,.inr ⟨rfl,rfl,rfl⟩⟩
 | some w=>exact⟨_,_,.inl ⟨w,rfl,rfl,rfl⟩⟩
theorem newConvs_cons (c:Conv) (cs:List Conv):newConvs (c::cs)=match convNew c.ins c.out c.up c.down with
 | some n=>(newConvs cs).map (n::·)
 | none=>none:=by
 simp only[newConvs]
 cases convNew c.ins c.out c.up c.down<;>cases newConvs cs<;>rfl
theorem convNew_is {i o:E} {up down:B} {n:Conv} (h:convNew i o up down=some n):n=⟨i,o,up,down,0,0,[],[]⟩:=by
 unfold convNew at h
 split at h<;>cases h
 rfl
theorem newRet {pin:Nat} {o:Option M.World} {l:List (Nat×V)} {mm:List (Nat×Hs)} {d c e:Nat} (ho:o=none) (h2:getL l d=.pv c 0) (h3:getL l e=.bool false) (m2:getH mm c=.var 41 [.nils,.nils,.nils,.nils]) :
 retQ [.cell d 4 true,.t e] 0 (newA o) .ret ⟨getL l,getH mm⟩:=by
 refine retN (.tup [.agg [.nils,.nils,.nils,.nils],.bool false]) [] [] ?_ (.inr ⟨ho,rfl,rfl⟩) (by simp only[go_sem]) (by simp[argH]) (by simp only[go_sem])
 simp only[go_sem,h2,h3,m2]
theorem newRet1 {o:Option M.World} {w:M.World} {l:List (Nat×V)} {mm:List (Nat×Hs)} {d c e:Nat} (n0 n1 n2 n3:Nat) (ho:o=some w) (h4:getL l d=.pv c 0) (h5:getL l e=.bool true)
 (m4:getH mm c=.var 41 [.own n0 w.convs.length,.own n1 w.door.map.length,.own n2 w.door.flows.length,.own n3 w.nets.length])
 (m0:getH mm n0=.arr 47 10 (w.convs.map Conv.row)) (m1:getH mm n1=.arr 88 3 (w.door.map.map Pair.row)) (m2:getH mm n2=.arr 181 8 (w.door.flows.map Flw.row)) (m3:getH mm n3=.arr 70 7 (w.nets.map Pk.row))
 (hne:[n0,n1,n2,n3].Nodup):retQ [.cell d 4 true,.t e] 0 (newA o) .ret ⟨getL l,getH mm⟩:=by
 refine retN (.tup [.agg [.own 0 w.convs.length,.own 1 w.door.map.length,.own 2 w.door.flows.length,.own 3 w.nets.length],.bool true]) [.arr 47 10 (w.convs.map Conv.row),.arr 88 3 (w.door.map.map Pair.row),.arr 181 8 (w.door.flows.map Flw.row),.arr 70 7 (w.nets.map Pk.row)] [(0,n0),(1,n1),(2,n2),(3,n3)] ?_ (.inl ⟨w,ho,rfl,rfl⟩) ?_ (by simpa[argH,getN] using hne) (by simp only[go_sem])
 ·simp only[go_sem,h4,h5,m4]
 ·simp only[go_sem,m0,m1,m2,m3]
def ic29:IC:=sR [oP 2 (.alloc 41 [.nils,.nils,.nils,.nils]),oP 3 (.mv (.c (.bool false)))] (sR [oP 8 (.bsl 47 10 []),oP 9 (.bsl 88 3 []),oP 10 (.bsl 181 8 []),oP 11 (.build [.nils,.nils] [(0,(1,.t 9)),(1,(1,.t 10))]),oP 12 (.bsl 70 7 []),oP 13 (.build [.nils,.nils,.nils,.nils] [(0,(1,.t 8)),(1,(2,.t 11)),(3,(1,.t 12))]),oP 4 (.alloc 41 [.nils,.nils,.nils,.nils]),nP (.sto 4 (.t 4) (.t 13))] (.seq (sR [oP 5 (.mv (.c i0))] (.block 0 (.loop (.seq (sR [mV 14 5,mV 15 0,oP 16 (.len (.t 15)),bN 17 .lss 14 16] (.cond (.t 17) .skip (.exit 0))) (.seq (.block 1 (.seq (.drw [0,0,3,7,15,0,0,96,224,480,0,0,3072,7168,15360,0,0,98304,229376,491520,1048575,2097151,4194303,4194303,0,25165823,67108863] [(0,mV 21 0),(1,mV 22 5),(2,oP 23 (.iad 10 (.t 21) (.t 22))),(3,fD 24 0 23),(4,lA 25 2 24),(5,mV 26 0),(6,mV 27 5),(7,oP 28 (.iad 10 (.t 26) (.t 27))),(8,fD 29 2 28),(9,lA 30 2 29),(10,mV 31 0),(11,mV 32 5),(12,oP 33 (.iad 10 (.t 31) (.t 32))),(13,fD 34 4 33),(14,lD 35 1 34),(15,mV 36 0),(16,mV 37 5),(17,oP 38 (.iad 10 (.t 36) (.t 37))),(18,fD 39 5 38),(19,lD 40 1 39),(20,oP 41 (.call 54 [.t 25,.t 30,.t 35,.t 40])),(21,mV 20 41),(22,eX 42 20 0),(23,eX 43 20 1),(24,oP 6 (.alloc 47 [i0,i0,i0,i0,s0,s0,i0,i0,s0,s0])),(25,nP (.sto 10 (.t 6) (.t 42))),(26,mV 7 43)]) (.seq (sR [mV 44 7,oP 45 (.un .not (.t 44))] (.cond (.t 45) (sR [oP 46 (.build [.nils,.nils,.nils,.nils] []),nP (.sto 4 (.t 2) (.t 46)),oP 3 (.mv (.c (.bool false)))] .ret) .skip)) (.reg [fD 47 0 4,lD 48 1 47,lA 49 10 6,oP 50 (.bsl 47 10 [.t 49]),oP 51 (.app 47 10 (.t 48) (.t 50)),fD 52 0 4,nP (.sto 1 (.t 52) (.t 51))])))) (.reg [mV 18 5,oP 19 (.bin .add (.t 18) (.c (.int .i64 1))),mV 5 19])))))) (.seq (sR [fD 53 0 4,lD 54 1 53,oP 55 (.call 55 [.t 54]),oP 56 (.un .not (.t 55))] (.cond (.t 56) (sR [oP 57 (.build [.nils,.nils,.nils,.nils] []),nP (.sto 4 (.t 2) (.t 57)),oP 3 (.mv (.c (.bool false)))] .ret) .skip)) (sR [lA 58 4 4,nP (.sto 4 (.t 2) (.t 58)),oP 3 (.mv (.c (.bool true)))] .ret))))
theorem dg29:Dg Tryz.prog 29 Tryz.f29 ic29 [(.cell 2 4 true),(.t 3)]:=⟨Tryz.func29,by kernel_rfl,by kernel_rfl⟩
theorem c29 (cs:List Conv) (hl:cs.length≤1000000) (hB:∀c∈cs,c.up.length≤2000000∧c.down.length≤2000000):FnP Tryz.prog G 29 0 [] [.sl 10 (cs.map Conv.row)] (newA (worldNew cs)):=by
 refine mP dg29 Tryz.ntmps29 (newA_ex _) ?_
 simp only[ic29,go_sem]
 refine loopN (fun a:Nat×List Conv=>⟨getL [(0,.sl 10 (cs.map Conv.row)),(2,.pv 1002 0),(4,.pv 1004 0),(5,.int .i64 (a.1:Int))],getH [(1002,.var 41 [.nils,.nils,.nils,.nils]),(1004,.var 41 [.own 1008 a.2.length,.own 1009 0,.own 1010 0,.own 1012 0]),(1008,.arr 47 10 (a.2.map Conv.row)),(1009,.arr 88 3 []),(1010,.arr 181 8 []),(1012,.arr 70 7 [])]⟩)
  (fun a=>cs.length - a.1) (fun a=>a.1≤cs.length∧a.2.length=a.1∧newConvs cs=(newConvs (cs.drop a.1)).map (a.2++·)∧∀c∈a.2,(c.up.length≤2000000∧c.down.length≤2000000)∧c.upGot.length≤2000000∧c.downGot.length≤2000000) (0,[]) (leQ []) ⟨Nat.zero_le _,rfl,by simp,by simp⟩ ?_
 intro⟨i,ns⟩ ⟨hi,hnl,hnc,hnB⟩
 simp only at hi hnl hnc hnB
 simp only[go_sem]
 by_cases h:(i:Int)<cs.length
 ·have hil:i<cs.length:=by omega
  have hg:cs.getD i default=cs[i]:=by simp[List.getD,hil]
  obtain⟨b1,b2⟩:=hB _ (List.getElem_mem hil)
  rw[List.drop_eq_getElem_cons hil,newConvs_cons] at hnc
  have c1:=c54 cs[i].ins cs[i].out cs[i].up cs[i].down b1 b2
  simp only[eq_true h,go_sem]
  with_reducible repeat' (first|refine br ?_ ?_<;>intro h e<;>(try simp only[e,go_sem,hg])<;>clear e|rw[i64w (by omega)]|refine sd ?_<;>try simp only[go_sem,hg]|(first|refine cr (c1 ..) ?_)<;>try simp only[go_sem,hg]|fail)
  ·obtain⟨n,hn⟩:=Option.isSome_iff_exists.1 (by assumption)
   have hni:=convNew_is hn
   simp only[hn,Option.getD_some] at hnc ⊢
   refine⟨(i+1,ns++[n]),by simp only;omega,⟨by simp only;omega,by simp only[zA,zC,zN];omega, ?_, ?_⟩,leN [(1008,1051)] ?_ ?_ (by simp[getN]) (by simp only[go_sem])⟩
   ·simp only
    rw[hnc]
    cases newConvs (cs.drop (i+1))<;>simp
   ·intro c hc
    rcases List.mem_append.1 hc with hc|hc
    ·exact hnB c hc
    ·simp only[List.mem_singleton] at hc
     subst hc
     rw[hni]
     exact⟨⟨b1,b2⟩,by simp,by simp⟩
   ·simp only[go_sem];simp
   ·simp only[go_sem];simp[Conv.row]
  ·refine newRet (pin:=0) (c:=1002) ?_ (by simp only[go_sem]) (by simp only[go_sem]) (by simp only[go_sem])
   have hn:convNew cs[i].ins cs[i].out cs[i].up cs[i].down=none:=by simpa using h
   rw[hn] at hnc
   simp only[Option.map_none] at hnc
   simp[worldNew,hnc]
 ·simp only[eq_false h,go_sem]
  have:i=cs.length:=by omega
  subst this
  rw[List.drop_length] at hnc
  simp only[newConvs,Option.map_some,List.append_nil] at hnc
  refine callF (c55 ns (by omega) hnB) [1008] false (by simp only[go_sem];first|done|simp[E.row,Pc.row,Pair.row,Part.row,Flw.row,Pk.row,Conv.row]) (by simp only[List.mem_singleton];rintro c rfl;rfl) rfl (.inr rfl) ?_
  simp only[go_sem]
  cases ht:together ns<;>simp only[go_sem]
  ·refine newRet (pin:=0) (c:=1002) ?_ (by simp only[go_sem]) (by simp only[go_sem]) (by simp only[go_sem])
   simp[worldNew,hnc,ht]
  ·refine newRet1 (c:=1002) (w:=⟨ns,.zero,[]⟩) 1008 1009 1010 1012 ?_ ?_ ?_ ?_ ?_ ?_ ?_ ?_ (by decide)
   ·simp[worldNew,hnc,ht]
   all_goals simp only[go_sem,Door.zero]
theorem cvP (cs:List Conv):((cs.map Conv.row).all fun r=>r.all V.plain0)=true:=by simp[Conv.row,V.plain0]
structure WS (w:M.World):Prop where
 cl:w.convs.length≤2000000
 cb:∀c∈w.convs,(c.up.length≤2000000∧c.down.length≤2000000)∧c.upGot.length≤2000000∧c.downGot.length≤2000000
 db:DB w.door
 nl:w.nets.length≤2000000
 nt:∀p∈w.nets,p.text.length≤2000000
theorem wx_ws {X:List (E×E)} {w:M.World} (h:WX X w):WS w:=by
 obtain⟨hdm,hdf,_⟩:=doorOk_iff.1 h.door
 have hm:=(mapOk_ports hdm).2
 have hcl:=h.cl
 have hnl:=h.nl
 refine⟨by omega,fun c hc=>?_,⟨by omega,by omega,fun f hf=>?_⟩,by omega,fun p hp=>?_⟩
 ·have:=convOk_B (h.cv c hc)
  have h1:=this.up;have h2:=this.down;have h3:=this.upGot;have h4:=this.downGot
  omega
 ·obtain⟨k,hk⟩:=List.mem_iff_getElem?.1 hf
  obtain⟨_,_,h1,h2,_⟩:=flow_at h.door hk
  exact⟨(strmOk_B h1).sb,(strmOk_B h2).sb⟩
 ·have:=(h.net p hp).pk.len
  omega
def ic102:IC:=sR [oP 1 (.box 41 (.t 0)),oP 2 (.mv (.c (.bool false)))] (.seq (sR [oP 3 (.mv (.c i0))] (.block 0 (.loop (.seq (sR [mV 4 3,fD 5 3 1,lD 6 1 5,oP 7 (.len (.t 6)),bN 8 .lss 4 7] (.cond (.t 8) .skip (.exit 0))) (.seq (.block 1 (sR [fD 11 3 1,lD 12 1 11,mV 13 3,oP 14 (.iad 7 (.t 12) (.t 13)),lA 15 7 14,oP 16 (.call 60 [.t 15]),oP 17 (.un .not (.t 16))] (.cond (.t 17) (sR [oP 2 (.mv (.c (.bool false)))] .ret) .skip))) (.reg [mV 9 3,oP 10 (.bin .add (.t 9) (.c (.int .i64 1))),mV 3 10])))))) (sR [fD 18 0 1,lD 19 1 18,oP 20 (.call 55 [.t 19]),mV 21 20,⟨some 22,some (21,true),.fad 1 (.t 1)⟩,⟨some 23,some (21,true),.ld 2 true (.t 22)⟩,⟨some 24,some (21,true),.call 140 [.t 23]⟩,oP 25 (.pick (.t 21) (.t 24) (.c (.bool false))),mV 26 25,⟨some 27,some (26,true),.fad 3 (.t 1)⟩,⟨some 28,some (26,true),.ld 1 false (.t 27)⟩,⟨some 29,some (26,true),.len (.t 28)⟩,⟨some 30,some (26,true),.bin .leq (.t 29) (.c (.int .i64 10))⟩,oP 31 (.pick (.t 26) (.t 30) (.c (.bool false))),mV 2 31] .ret))
theorem dg102:Dg Tryz.prog 102 Tryz.f102 ic102 [(.t 2)]:=⟨Tryz.func102,by kernel_rfl,by kernel_rfl⟩
theorem c102 (w:M.World) (h:WS w):FnR Tryz.prog G 102 [.agg [.sl 10 (w.convs.map Conv.row),.sl 3 (w.door.map.map Pair.row),.sl 8 (w.door.flows.map Flw.row),.sl 7 (w.nets.map Pk.row)]] (.bool (worldOk w)):=by
 refine mF dg102 Tryz.ntmps102 ?_
 have f1:=c55 w.convs h.cl h.cb
 have f2:=c140 w.door h.db
 have e:worldOk w=(together w.convs&&doorOk w.door&&decide (w.nets.length≤10)&&w.nets.all pkOk):=rfl
 simp only[ic102,go_sem]
 refine loopN (fun k:Nat=>⟨getL [(1,.pv 1001 0),(3,.int .i64 (k:Int))],getH [(1001,.var 41 [.sl 10 (w.convs.map Conv.row),.sl 3 (w.door.map.map Pair.row),.sl 8 (w.door.flows.map Flw.row),.sl 7 (w.nets.map Pk.row)])]⟩) (fun k=>w.nets.length - k) (fun k=>k≤w.nets.length∧(w.nets.take k).all pkOk=true) 0 (leQ []) ⟨Nat.zero_le _,by simp⟩ ?_
 intro k ⟨hk,ha⟩
 simp only[go_sem]
 by_cases hh:(k:Int)<w.nets.length
 ·have hil:k<w.nets.length:=by omega
  have hg:w.nets.getD k default=w.nets[k]:=by simp[List.getD,hil]
  have fp:=c60 w.nets[k] (h.nt _ (List.getElem_mem hil))
  cases hb:pkOk w.nets[k] with
  | false =>
    rw[hb] at fp
    have hbad:worldOk w=false:=by
     rw[e]
     have:w.nets.all pkOk=false:=by
      cases hx:w.nets.all pkOk with
      | false=>rfl
      | true =>
        have:=List.all_eq_true.1 hx _ (List.getElem_mem hil)
        rw[hb] at this
        cases this
     rw[this,Bool.and_false]
    simp only[eq_true hh,go_sem]
    generalize w.nets[k]=q at *
    with_reducible repeat' (first|refine br ?_ ?_<;>intro h e<;>(try simp only[e,go_sem,getD_mp hil,hg])<;>clear e|rw[i64w (by omega)]|refine sd ?_<;>try simp only[go_sem,getD_mp hil,hg]|(first|refine cr (fp ..) ?_)<;>try simp only[go_sem,getD_mp hil,hg]|fail)
    all_goals first|done|exact hbad|simp[hbad]
  | true =>
    rw[hb] at fp
    have hst:(w.nets.take (k+1)).all pkOk=true:=by
     rw[List.take_add_one,zE hil]
     simp only[Option.toList_some,List.all_append,ha,List.all_cons,List.all_nil,Bool.and_true,hb]
    simp only[eq_true hh,go_sem]
    generalize w.nets[k]=q at *
    have hnl:=h.nl
    with_reducible repeat' (first|rw[i64w (by omega)];try simp only[go_sem,getD_mp hil,hg]|refine br ?_ ?_<;>intro h e<;>(try simp only[e,go_sem,getD_mp hil,hg])<;>clear e|refine sd ?_<;>try simp only[go_sem,getD_mp hil,hg]|(first|refine cr (fp ..) ?_)<;>try simp only[go_sem,getD_mp hil,hg]|fail)
    exact⟨k+1,by omega,⟨by omega,hst⟩,(leQ [])⟩
 ·simp only[eq_false hh,go_sem]
  obtain rfl:k=w.nets.length:=by omega
  rw[List.take_length] at ha
  have e2:worldOk w=(together w.convs&&doorOk w.door&&decide (w.nets.length≤10)):=by rw[e,ha,Bool.and_true]
  rw[e2]
  clear e e2 ha
  generalize together w.convs=b1 at *
  generalize doorOk w.door=b2 at *
  with_reducible repeat' (first|refine br ?_ ?_<;>intro h e<;>(try simp only[e,go_sem])<;>clear e|rw[i64w (by omega)]|refine sd ?_<;>try simp only[go_sem]|(first|refine cr (f1 ..) ?_|refine cr (f2 ..) ?_)<;>try simp only[go_sem]|fail)
  all_goals first|done|(clear f1 f2;simp_all;done)|(clear f1 f2;simp_all;omega)|trace_state
def ic103:IC:=sR [oP 1 (.box 41 (.t 0)),oP 2 (.alloc 41 [.nils,.nils,.nils,.nils])] (.seq (.drw [0,0,2,7,0,16,63,0,0,256,1023,2047,4095] [(0,oP 3 (.bsl 47 10 [])),(1,fD 4 0 1),(2,lD 5 1 4),(3,oP 6 (.app 47 10 (.t 3) (.t 5))),(4,fD 7 1 1),(5,lA 8 2 7),(6,oP 9 (.call 141 [.t 8])),(7,oP 10 (.bsl 70 7 [])),(8,fD 11 3 1),(9,lD 12 1 11),(10,oP 13 (.app 70 7 (.t 10) (.t 12))),(11,oP 14 (.build [.nils,.nils,.nils,.nils] [(0,(1,.t 6)),(1,(2,.t 9)),(3,(1,.t 13))])),(12,nP (.sto 4 (.t 2) (.t 14)))]) .ret)
theorem dg103:Dg Tryz.prog 103 Tryz.f103 ic103 [(.cell 2 4 true)]:=⟨Tryz.func103,by kernel_rfl,by kernel_rfl⟩
theorem c103 {X:List (E×E)} (w:M.World) (hw:WX X w):FnP Tryz.prog G 103 0 [] [.agg [.sl 10 (w.convs.map Conv.row),.sl 3 (w.door.map.map Pair.row),.sl 8 (w.door.flows.map Flw.row),.sl 7 (w.nets.map Pk.row)]] (worldA w):=by
 refine mP dg103 Tryz.ntmps103 ⟨_,_,rfl,rfl⟩ ?_
 have hnl:=hw.nl
 have hcl:=hw.cl
 have hfl:=hw.flows3
 obtain⟨hdm,hdf,_⟩:=doorOk_iff.1 hw.door
 have hml:=(mapOk_ports hdm).2
 simp only[ic103,go_sem]
 with_reducible repeat' (first|refine br ?_ ?_<;>intro h e<;>(try simp only[e,go_sem])<;>clear e|rw[i64w (by omega)]|refine sd ?_<;>try simp only[go_sem]|fail)
 refine callO (c141 (w.door.map.map Pair.row) w.door.flows (by simp;omega) (by omega) (copyC hw.door)) [] 9 2 (by simp only[go_sem];first|done|simp) (by simp) (by rintro _ _ ⟨rfl,rfl⟩;simp) (by intro i hi;rcases(show i=0∨i=1 by omega) with rfl|rfl<;>simp only[go_sem]) ?_
 rintro _ _ ⟨rfl,rfl⟩
 simp only[go_sem]
 with_reducible repeat' (first|refine br ?_ ?_<;>intro h e<;>(try simp only[e,go_sem])<;>clear e|rw[i64w (by omega)]|refine sd ?_<;>try simp only[go_sem]|fail)
 exact worldRet (d:=2) (c:=1002) 1006 100900 100901 1013 (by simp only[go_sem]) (by simp only[go_sem];first|done|simp) (by simp only[go_sem];first|done|simp) (by simp only[go_sem]) (by simp only[go_sem]) (by simp only[go_sem];first|done|simp) (by decide)
end Go.Proofs.YtiegngjdjheebaaGreatDoor.W
