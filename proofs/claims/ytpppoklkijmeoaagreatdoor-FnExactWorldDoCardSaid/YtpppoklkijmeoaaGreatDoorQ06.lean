/- Part 6 of the proof: the walk over values, the plain model, contracts of the functions of the program. -/
import Derived.Test.YtpppoklkijmeoaaGreatDoorQ05
import Derived.Test.YtpppoklkijmeoaaGreatDoorQ03
import Derived.Test.YtpppoklkijmeoaaGreatDoorQ04
import Derived.Shelf.Strings.OnBuilder
set_option linter.all false
namespace Go.Proofs.YtpppoklkijmeoaaGreatDoor.W
open Go Go.RowKit Go.Proofs Go.Proofs.YtpppoklkijmeoaaGreatDoor.VL Go.Proofs.YtpppoklkijmeoaaGreatDoor.M
def qxf:IC:=sR [oP 2 (.box 38 (.t 0)),oP 3 (.box 54 (.t 1)),oP 4 (.alloc 38 [.nils,.nils,.nils,.nils]),oP 5 (.alloc 54 [i0,i0,i0,i0,i0,i0,s0]),oP 6 (.mv cF)] (.seq (sR [oP 7 (.mv (.c i0))] (.block 0 (.loop (.seq (sR [mV 14 7,fD 15 0 2,lD 16 1 15,oP 17 (.len (.t 16)),bN 18 .lss 14 17] (cD 18 .skip (.exit 0))) (.seq (.block 1 (sR [fD 21 0 2,lD 22 1 21,mV 23 7,oP 24 (.iad 10 (.t 22) (.t 23)),lA 25 10 24,oP 8 (.alloc 91 [i0,i0,i0,i0,s0,s0,i0,i0,s0,s0]),nP (.sto 10 (.t 8) (.t 25))] (sR [fD 26 3 3,lA 27 2 26,fD 28 0 8,lA 29 2 28,oP 30 (.eqs false [.i,.i] (.t 27) (.t 29)),mV 31 30,gT 32 31 (.fad 1 (.t 3)),gT 33 31 (.ld 2 true (.t 32)),gT 34 31 (.fad 2 (.t 8)),gT 35 31 (.ld 2 true (.t 34)),gT 36 31 (.eqs false [.i,.i] (.t 33) (.t 35)),pF 37 31 36,mV 9 37] (.seq (.drw [0,1,0,4,15,31,63,127,255,511,1023,2047,2047,6143,16383,2047,34815,100351,262143,524287,1048575] [(0,fD 38 3 3),(1,lA 39 2 38),(2,fD 40 2 8),(3,lA 41 2 40),(4,oP 42 (.eqs false [.i,.i] (.t 39) (.t 41))),(5,mV 43 42),(6,gT 44 43 (.fad 1 (.t 3))),(7,gT 45 43 (.ld 2 true (.t 44))),(8,gT 46 43 (.call 120 [.t 45])),(9,pF 47 43 46),(10,mV 48 47),(11,gT 49 48 (.ld 4 true (.t 2))),(12,gT 50 48 (.fad 0 (.t 8))),(13,gT 51 48 (.ld 2 true (.t 50))),(14,gT 52 48 (.call 99 [.t 49,.t 51])),(15,gT 53 48 (.fad 1 (.t 3))),(16,gT 54 48 (.fad 1 (.t 53))),(17,gT 55 48 (.ld 1 false (.t 54))),(18,gT 56 48 (.bin .eql (.t 52) (.t 55))),(19,pF 57 48 56),(20,mV 10 57)]) (sR [mV 58 9,mV 59 58,gF 60 59 (.mv (.t 10)),pT 61 59 60] (cD 61 (sR [lA 63 10 8,mV 64 9,lA 65 7 3,oP 66 (.call 156 [.t 63,.t 64,.t 65]),mV 62 66,eX 67 62 0,eX 68 62 1,eX 69 62 2,oP 11 (.alloc 91 [i0,i0,i0,i0,s0,s0,i0,i0,s0,s0]),oP 12 (.alloc 54 [i0,i0,i0,i0,i0,i0,s0]),nP (.sto 10 (.t 11) (.t 67)),nP (.sto 7 (.t 12) (.t 68)),mV 13 69] (sR [fD 70 0 2,lD 71 1 70,mV 72 7,lA 73 10 11,oP 74 (.iad 10 (.t 71) (.t 72)),nP (.sto 10 (.t 74) (.t 73))] (.seq (.drw [0,0,0,1,11,31] [(0,lA 75 4 2),(1,lA 76 7 12),(2,mV 77 13),(3,nP (.sto 4 (.t 4) (.t 75))),(4,nP (.sto 7 (.t 5) (.t 76))),(5,mV 6 77)]) .ret))) .skip)))))) (.reg [mV 19 7,oP 20 (.bin .add (.t 19) (cI 1)),mV 7 20])))))) (sR [lA 78 4 2,oP 79 (.build [i0,i0,i0,i0,i0,i0,s0] []),nP (.sto 4 (.t 4) (.t 78)),nP (.sto 7 (.t 5) (.t 79)),oP 6 (.mv cF)] .ret))
theorem dg133:Dg Tryz.prog 133 Tryz.f133 qxf [(.cell 4 4 true),(.cell 5 7 true),(.t 6)]:=⟨Tryz.func133,by kernel_rfl,by kernel_rfl⟩
theorem x133 {X:List (E×E)} (w:M.World) (p:Pk) (hw:WX X w) (hp:PkP p):FnP Tryz.prog G 133 0 [.arr 91 10 (w.convs.map Conv.row),.arr 132 3 (w.door.map.map Pair.row),.arr 130 8 (w.door.flows.map Flw.row),.arr 54 7 (w.nets.map Pk.row)] [.agg [.own 0 w.convs.length,.own 1 w.door.map.length,.own 2 w.door.flows.length,.own 3 w.nets.length],.agg [.int .i64 p.kind,.int .i64 p.frm.a,.int .i64 p.frm.p,.int .i64 p.to.a,.int .i64 p.to.p,.int .i64 p.at_,.str p.text]] (qo4 (qam w p)):=by
 refine mP dg133 Tryz.ntmps133 ⟨_,_,rfl,rfl⟩ ?_
 have hml:=(q0b (q0c.1 hw.door).1).2
 have hcl:=hw.cl
 simp only[qxf,go_sem]
 refine q0d (λk:Nat=>⟨q0e [(2,.pv 3000002 0),(3,.pv 3000003 0),(4,.pv 3000004 0),(5,.pv 3000005 0),(7,.int .i64 (k:Int))],q01 [(3000002,.var 38 [.own 0 w.convs.length,.own 1 w.door.map.length,.own 2 w.door.flows.length,.own 3 w.nets.length]),(3000003,.var 54 [.int .i64 p.kind,.int .i64 p.frm.a,.int .i64 p.frm.p,.int .i64 p.to.a,.int .i64 p.to.p,.int .i64 p.at_,.str p.text]),(3000004,.var 38 [.nils,.nils,.nils,.nils]),(3000005,.var 54 [.int .i64 0,.int .i64 0,.int .i64 0,.int .i64 0,.int .i64 0,.int .i64 0,.str []]),(0,.arr 91 10 (w.convs.map Conv.row)),(1,.arr 132 3 (w.door.map.map Pair.row)),(2,.arr 130 8 (w.door.flows.map Flw.row)),(3,.arr 54 7 (w.nets.map Pk.row))]⟩)
  (λk=>w.convs.length - k) (λk=>k≤w.convs.length∧(w.convs.take k).any (q5r w p)=false) 0 (leQ []) ⟨Nat.zero_le _,by simp⟩ ?_
 intro k ⟨hk,ha⟩
 simp only[go_sem]
 by_cases h:(k:Int)<w.convs.length
 ·have hil:k<w.convs.length:=by omega
  have hg:w.convs.getD k default=w.convs[k]:=by simp[List.getD,hil]
  have hat:=qdr (w:=w) (p:=p) hil ha
  have hstep:q5r w p w.convs[k]=false→(w.convs.take (k+1)).any (q5r w p)=false:=λhm=>by
   rw[List.take_add_one,zE hil]
   simp only[Option.toList_some,List.any_append,ha,List.any_cons,List.any_nil,Bool.or_false,Bool.false_or,hm]
  have hB:=q26 (hw.cv _ (List.getElem_mem hil))
  rw[qed] at hat hstep
  simp only[eq_comm (a:=p.frm.p)] at hat hstep
  simp only[eq_true h,go_sem]
  generalize hc:w.convs[k]=c at *
  generalize hinw:(decide (p.to=c.ins)&&decide (p.frm=c.out))=inw at *
  have g1:=λb=>c156 c b p hB hp
  have g2:=c99 w c.ins (by omega)
  with_reducible repeat' (first|refine br ?_ ?_<;>intro h e<;>(try simp only[e,go_sem,q03 hil,hg,hc,E.ext_iff'])<;>clear e|rw[q00 (by omega)]|refine sd ?_<;>try simp only[go_sem,q03 hil,hg,hc,E.ext_iff']|(first|refine cr (qja ..) ?_|refine cf (g2 ..) [0,1,2,3] ?_|refine cr (g1 ..) ?_)<;>try simp only[go_sem,q03 hil,hg,hc,E.ext_iff']|fail)
  all_goals clear g1 g2
  all_goals first
   | (refine⟨k+1,by omega,⟨by omega,hstep ?_⟩,(leQ [])⟩
      simp_all;done)
   | (have hh:=hat (by simp_all)
      have hi:inw=true:=by simp_all
      rw[hi] at hh
      refine q70 (w:={ w with convs:=w.convs.set k (q4x c true p).1 }) (q:=(q4x c true p).2) 0 1 2 3 hh ?_ ?_ ?_ ?_ ?_ ?_ ?_ ?_ ?_ (by decide)
      all_goals simp only[go_sem,List.map_set,List.length_set,q03 hil,hg]
      done)
   | (have hh:=hat (by simp_all)
      have hi:inw=false:=by simp_all
      rw[hi] at hh
      refine q70 (w:={ w with convs:=w.convs.set k (q4x c false p).1 }) (q:=(q4x c false p).2) 0 1 2 3 hh ?_ ?_ ?_ ?_ ?_ ?_ ?_ ?_ ?_ (by decide)
      all_goals simp only[go_sem,List.map_set,List.length_set,q03 hil,hg]
      done)
 ·simp only[eq_false h,go_sem]
  have:k=w.convs.length:=by omega
  subst this
  rw[List.take_length] at ha
  rw[qe9 ha]
  refine q70 (q:=none) 0 1 2 3 rfl ?_ ?_ ?_ ?_ ?_ ?_ ?_ ?_ ?_ (by decide)<;>simp only[go_sem,Option.isSome_none,Option.getD_none,Pk.zero,E.zero]
def ic97:IC:=sR [oP 2 (.box 38 (.t 0)),oP 3 (.box 54 (.t 1)),oP 4 (.alloc 38 [.nils,.nils,.nils,.nils]),oP 5 (.alloc 54 [i0,i0,i0,i0,i0,i0,s0]),oP 6 (.mv cF)] (.seq (sR [fD 10 3 3,lA 11 2 10,oP 12 (.call 120 [.t 11]),mV 13 12,gF 14 13 (.fad 1 (.t 3)),gF 15 13 (.ld 2 true (.t 14)),gF 16 13 (.call 127 [.t 15]),pT 17 13 16] (cD 17 (sR [fD 19 1 2,lA 20 2 19,lA 21 7 3,oP 22 (.call 132 [.t 20,.t 21]),mV 18 22,eX 23 18 0,eX 24 18 1,eX 25 18 2,oP 7 (.alloc 35 [.nils,.nils]),oP 8 (.alloc 54 [i0,i0,i0,i0,i0,i0,s0]),nP (.sto 2 (.t 7) (.t 23)),nP (.sto 7 (.t 8) (.t 24)),mV 9 25] (sR [lA 26 2 7,fD 27 1 2,nP (.sto 2 (.t 27) (.t 26))] (.seq (.drw [0,0,0,1,11,31] [(0,lA 28 4 2),(1,lA 29 7 8),(2,mV 30 9),(3,nP (.sto 4 (.t 4) (.t 28))),(4,nP (.sto 7 (.t 5) (.t 29))),(5,mV 6 30)]) .ret))) .skip)) (sR [lA 31 4 2,lA 32 7 3,oP 33 (.call 133 [.t 31,.t 32]),eX 34 33 0,eX 35 33 1,eX 36 33 2,nP (.sto 4 (.t 4) (.t 34)),nP (.sto 7 (.t 5) (.t 35)),mV 6 36] .ret))
theorem dg97:Dg Tryz.prog 97 Tryz.f97 ic97 [(.cell 4 4 true),(.cell 5 7 true),(.t 6)]:=⟨Tryz.func97,by kernel_rfl,by kernel_rfl⟩
theorem x97 {X:List (E×E)} (w:M.World) (p:Pk) (hw:WX X w) (hp:PkP p):FnP Tryz.prog G 97 0 [.arr 91 10 (w.convs.map Conv.row),.arr 132 3 (w.door.map.map Pair.row),.arr 130 8 (w.door.flows.map Flw.row),.arr 54 7 (w.nets.map Pk.row)] [.agg [.own 0 w.convs.length,.own 1 w.door.map.length,.own 2 w.door.flows.length,.own 3 w.nets.length],.agg [.int .i64 p.kind,.int .i64 p.frm.a,.int .i64 p.frm.p,.int .i64 p.to.a,.int .i64 p.to.p,.int .i64 p.at_,.str p.text]] (qo4 (q2g w p)):=by
 refine mP dg97 Tryz.ntmps97 ⟨_,_,rfl,rfl⟩ ?_
 have hdoor:(p.to.door=true∨p.frm.inside=true)→q2g w p=({ w with door:=(q1o w.door p).1 },(q1o w.door p).2):=λh=>q9w (by simpa using h)
 have hhost:p.to.door=false→p.frm.inside=false→q2g w p=qam w p:=λh1 h2=>q9o (by simp[h1,h2])
 simp only[ic97,go_sem]
 with_reducible repeat' (first|refine br ?_ ?_<;>intro h e<;>(try simp only[e,go_sem])<;>clear e|rw[q00 (by omega)]|refine sd ?_<;>try simp only[go_sem]|(first|refine cr (qja ..) ?_|refine cr (c127 ..) ?_)<;>try simp only[go_sem]|fail)
 ·refine q1z (c132 w.door p hw.door hw.flows4 hp) [1,2] [] 22 2 (by simp only[go_sem];first|done|simp) (by simp only[go_sem];first|done|simp) (by simp) (by simp) (by rintro _ _ ⟨rfl,rfl⟩;simp) (by intro i hi;rcases(show i=0∨i=1 by omega) with rfl|rfl<;>simp only[go_sem]) ?_
  rintro _ _ ⟨rfl,rfl⟩
  simp only[go_sem]
  with_reducible repeat' (first|refine br ?_ ?_<;>intro h e<;>(try simp only[e,go_sem])<;>clear e|rw[q00 (by omega)]|refine sd ?_<;>try simp only[go_sem]|fail)
  refine q70 (w:={ w with door:=(q1o w.door p).1 }) (q:=(q1o w.door p).2) 0 102200 102201 3 (hdoor (.inl (by assumption))) ?_ ?_ ?_ ?_ ?_ ?_ ?_ ?_ ?_ (by decide)<;>simp only[go_sem]
 ·refine q1z (c132 w.door p hw.door hw.flows4 hp) [1,2] [] 22 2 (by simp only[go_sem];first|done|simp) (by simp only[go_sem];first|done|simp) (by simp) (by simp) (by rintro _ _ ⟨rfl,rfl⟩;simp) (by intro i hi;rcases(show i=0∨i=1 by omega) with rfl|rfl<;>simp only[go_sem]) ?_
  rintro _ _ ⟨rfl,rfl⟩
  simp only[go_sem]
  with_reducible repeat' (first|refine br ?_ ?_<;>intro h e<;>(try simp only[e,go_sem])<;>clear e|rw[q00 (by omega)]|refine sd ?_<;>try simp only[go_sem]|fail)
  refine q70 (w:={ w with door:=(q1o w.door p).1 }) (q:=(q1o w.door p).2) 0 102200 102201 3 (hdoor (.inr (by assumption))) ?_ ?_ ?_ ?_ ?_ ?_ ?_ ?_ ?_ (by decide)<;>simp only[go_sem]
 ·refine q1z (x133 w p hw hp) [0,1,2,3] [] 33 4 (by simp only[go_sem];first|done|simp) (by simp only[go_sem];first|done|simp) (by simp) (by simp) (by rintro _ _ ⟨rfl,rfl⟩;simp) (by intro i hi;rcases(show i=0∨i=1∨i=2∨i=3 by omega) with rfl|rfl|rfl|rfl<;>simp only[go_sem]) ?_
  rintro _ _ ⟨rfl,rfl⟩
  simp only[go_sem]
  with_reducible repeat' (first|refine br ?_ ?_<;>intro h e<;>(try simp only[e,go_sem])<;>clear e|rw[q00 (by omega)]|refine sd ?_<;>try simp only[go_sem]|fail)
  refine q70 (w:=(qam w p).1) (q:=(qam w p).2) 103300 103301 103302 103303 (hhost (by assumption) (by assumption)) ?_ ?_ ?_ ?_ ?_ ?_ ?_ ?_ ?_ (by decide)<;>simp only[go_sem]
theorem PkP.ofNet {X:List (E×E)} {w:M.World} (h:WX X w) {k:Nat} {p:Pk} (hp:w.nets[k]?=some p):PkP p:=(h.net p (List.mem_of_getElem? hp)).pk
def qhc (w:M.World) (k a:Int):M.World :=
 if q0j a 0 ((w.nets.length:Int) - 1) then
  if k=5 then q4y w w.nets[a.toNat]?
  else if k=4 then { w with nets:=w.nets.eraseIdx a.toNat }
  else match w.nets[a.toNat]? with
   | some p=>q4y (q2g { w with nets:=w.nets.eraseIdx a.toNat } p).1 (q2g { w with nets:=w.nets.eraseIdx a.toNat } p).2
   | none=>w
 else w
theorem qd2 (w:M.World) (e:Ev) (h:e.kind=3∨e.kind=4∨e.kind=5):wDo w e=qhc w e.kind e.a:=by
 unfold wDo qhc
 rcases h with h|h|h<;>simp only[h]<;>simp<;>rfl
def qs9 (sz c o n:Nat):Hs→Option (List (List V)×List Nat)
 | .arr _ s rows=>if s=sz then guardP (o+n≤rows.length) (some ((rows.drop o).take n,[c])) else none
 | _=>none
theorem qbs (h:Nat→Hs) (sz c o n):qi2 h sz (.view c o n)=qs9 sz c o n (h c):=by simp only[qi2,q46,qs9];cases h c<;>rfl
theorem qno {sz c o n ty rows} (hl:o+n≤rows.length):qs9 sz c o n (.arr ty sz rows)=some ((rows.drop o).take n,[c]):=by
 simp[qs9,guardP,hl]
def ic78:IC:=sR [oP 2 (.box 38 (.t 0)),oP 3 (.box 56 (.t 1)),oP 4 (.alloc 38 [.nils,.nils,.nils,.nils])] (.seq (sR [fD 9 1 3,lD 10 1 9,fD 11 3 2,lD 12 1 11,oP 13 (.len (.t 12)),oP 14 (.bin .sub (.t 13) (cI 1)),oP 15 (.call 20 [.t 10,.c i0,.t 14]),oP 16 (.un .not (.t 15))] (cD 16 (sR [lA 17 4 2,nP (.sto 4 (.t 4) (.t 17))] .ret) .skip)) (sR [fD 18 3 2,lD 19 1 18,fD 20 1 3,lD 21 1 20,oP 22 (.iad 7 (.t 19) (.t 21)),lA 23 7 22,oP 5 (.alloc 54 [i0,i0,i0,i0,i0,i0,s0]),nP (.sto 7 (.t 5) (.t 23))] (.seq (sR [fD 24 0 3,lD 25 1 24,oP 26 (.bin .eql (.t 25) (cI 5))] (cD 26 (sR [lA 27 4 2,lA 28 7 5,oP 29 (.call 77 [.t 27,.t 28,cT]),nP (.sto 4 (.t 4) (.t 29))] .ret) .skip)) (.seq (.drw [0,0,2,0,8,30,63,0,128,0,512,1536,3968,8191,16383,32767] [(0,oP 30 (.bsl 54 7 [])),(1,fD 31 3 2),(2,lD 32 1 31),(3,fD 33 1 3),(4,lD 34 1 33),(5,oP 35 (.slv 7 (.t 32) none (some (.t 34)))),(6,oP 36 (.app 54 7 (.t 30) (.t 35))),(7,fD 37 3 2),(8,lD 38 1 37),(9,fD 39 1 3),(10,lD 40 1 39),(11,oP 41 (.bin .add (.t 40) (cI 1))),(12,oP 42 (.slv 7 (.t 38) (some (.t 41)) none)),(13,oP 43 (.app 54 7 (.t 36) (.t 42))),(14,fD 44 3 2),(15,nP (.sto 1 (.t 44) (.t 43)))]) (.seq (sR [fD 45 0 3,lD 46 1 45,oP 47 (.bin .eql (.t 46) (cI 4))] (cD 47 (sR [lA 48 4 2,nP (.sto 4 (.t 4) (.t 48))] .ret) .skip)) (sR [lA 50 4 2,lA 51 7 5,oP 52 (.call 97 [.t 50,.t 51]),mV 49 52,eX 53 49 0,eX 54 49 1,eX 55 49 2,oP 6 (.alloc 38 [.nils,.nils,.nils,.nils]),oP 7 (.alloc 54 [i0,i0,i0,i0,i0,i0,s0]),nP (.sto 4 (.t 6) (.t 53)),nP (.sto 7 (.t 7) (.t 54)),mV 8 55] (sR [lA 56 4 6,lA 57 7 7,mV 58 8,oP 59 (.call 77 [.t 56,.t 57,.t 58]),nP (.sto 4 (.t 4) (.t 59))] .ret)))))))
theorem dg78:Dg Tryz.prog 78 Tryz.f78 ic78 [(.cell 4 4 true)]:=⟨Tryz.func78,by kernel_rfl,by kernel_rfl⟩
theorem x78 {X:List (E×E)} (w:M.World) (e:Ev) (hw:WX X w):FnP Tryz.prog G 78 0 [.arr 91 10 (w.convs.map Conv.row),.arr 132 3 (w.door.map.map Pair.row),.arr 130 8 (w.door.flows.map Flw.row),.arr 54 7 (w.nets.map Pk.row)] [.agg [.own 0 w.convs.length,.own 1 w.door.map.length,.own 2 w.door.flows.length,.own 3 w.nets.length],.agg [.int .i64 e.kind,.int .i64 e.a,.int .i64 e.b,.int .i64 e.c,.int .i64 e.pkt.kind,.int .i64 e.pkt.frm.a,.int .i64 e.pkt.frm.p,.int .i64 e.pkt.to.a,.int .i64 e.pkt.to.p,.int .i64 e.pkt.at_,.str e.pkt.text]] (q8j (qhc w e.kind e.a)):=by
 refine mP dg78 Tryz.ntmps78 ⟨_,_,rfl,rfl⟩ ?_
 have hnl:=hw.nl
 simp only[ic78,go_sem]
 rw[q00 (by omega)]
 generalize hwi:q0j e.a 0 ((w.nets.length:Int) - 1)=b
 have hw2:b=true→0≤e.a∧e.a≤(w.nets.length:Int) - 1:=λh=>M.within_iff.1 (hwi.trans h)
 refine q0m (c20 e.a 0 ((w.nets.length:Int) - 1)) rfl rfl ?_
 rw[hwi]
 cases b<;>simp only[go_sem]
 ·have hx:qhc w e.kind e.a=w:=by simp[qhc,hwi]
  rw[hx]
  exact q1d (c:=3000004) 0 1 2 3 (by simp only[go_sem]) (by simp only[go_sem]) (by simp only[go_sem]) (by simp only[go_sem]) (by simp only[go_sem]) (by simp only[go_sem]) (by decide)
 have hw2:=hw2 rfl
 have hil:e.a.toNat<w.nets.length:=by omega
 have hg:w.nets.getD e.a.toNat default=w.nets[e.a.toNat]:=by simp[List.getD,hil]
 have hg2:w.nets[e.a.toNat]?=some w.nets[e.a.toNat]:=zE hil
 have hx5:e.kind=5→qhc w e.kind e.a=q4y w (some w.nets[e.a.toNat]):=λh=>by simp only[qhc,hwi,if_true];rw[if_pos h,hg2]
 have hx4:e.kind=4→qhc w e.kind e.a={ w with nets:=w.nets.eraseIdx e.a.toNat }:=λh=>by simp only[qhc,hwi,if_true];rw[if_neg (by omega),if_pos h]
 have hx3:e.kind≠5→e.kind≠4→qhc w e.kind e.a=q4y (q2g { w with nets:=w.nets.eraseIdx e.a.toNat } w.nets[e.a.toNat]).1 (q2g { w with nets:=w.nets.eraseIdx e.a.toNat } w.nets[e.a.toNat]).2:=λh h'=>by simp only[qhc,hwi,if_true];rw[if_neg h,if_neg h',hg2]
 have hpk:=PkP.ofNet hw hg2
 have hwe:=hw.erase e.a.toNat
 have herase:w.nets.eraseIdx e.a.toNat=w.nets.take e.a.toNat++w.nets.drop (e.a.toNat+1):=List.eraseIdx_eq_take_drop_succ _ _
 generalize hp:w.nets[e.a.toNat]=p at *
 have rv1:qs9 7 3 0 (e.a.toNat - 0) (.arr 54 7 (w.nets.map Pk.row))=some ((w.nets.take e.a.toNat).map Pk.row,[3]):=by
  rw[qno (by simp;omega)];simp[List.map_take]
 have rv2:qs9 7 3 (e.a+1).toNat (w.nets.length - (e.a+1).toNat) (.arr 54 7 (w.nets.map Pk.row))=some ((w.nets.drop (e.a.toNat+1)).map Pk.row,[3]):=by
  rw[qno (by simp;omega)]
  have:(e.a+1).toNat=e.a.toNat+1:=by omega
  rw[this,←List.map_drop,←List.map_take,List.take_of_length_le (by simp)]
 with_reducible repeat' (first|refine br ?_ ?_<;>intro h e<;>(try simp only[e,go_sem,q03 hil,hg,hp,qbs,rv1,rv2,List.length_take,List.length_drop])<;>clear e|rw[q00 (by omega)]|refine sd ?_<;>try simp only[go_sem,q03 hil,hg,hp,qbs,rv1,rv2,List.length_take,List.length_drop]|fail)
 ·have c5:=c77 w p true (by omega)
  simp only[cond_true] at c5
  rw[hx5 h]
  refine q1z c5 [0,1,2,3] [] 29 4 (by simp only[go_sem];first|done|simp) (by simp only[go_sem];first|done|simp) (by simp) (by simp) (by rintro _ _ ⟨rfl,rfl⟩;simp) (by intro i hi;rcases(show i=0∨i=1∨i=2∨i=3 by omega) with rfl|rfl|rfl|rfl<;>simp only[go_sem]) ?_
  rintro _ _ ⟨rfl,rfl⟩
  simp only[go_sem]
  with_reducible repeat' (first|refine br ?_ ?_<;>intro h e<;>(try simp only[e,go_sem])<;>clear e|rw[q00 (by omega)]|refine sd ?_<;>try simp only[go_sem]|fail)
  exact q1d (c:=3000004) 102900 102901 102902 102903 (by simp only[go_sem]) (by simp only[go_sem]) (by simp only[go_sem]) (by simp only[go_sem]) (by simp only[go_sem]) (by simp only[go_sem]) (by decide)
 ·have hlen:min e.a.toNat w.nets.length+(w.nets.length - (e.a.toNat+1))=(w.nets.eraseIdx e.a.toNat).length:=by rw[herase];simp
  have hrows:(w.nets.take e.a.toNat).map Pk.row++(w.nets.drop (e.a.toNat+1)).map Pk.row=(w.nets.eraseIdx e.a.toNat).map Pk.row:=by rw[herase,List.map_append]
  simp only[hlen,hrows]
  rw[hx4 h]
  exact q1d (c:=3000004) 0 1 2 3000043 (by simp only[go_sem]) (by simp only[go_sem]) (by simp only[go_sem]) (by simp only[go_sem]) (by simp only[go_sem]) (by simp only[go_sem]) (by decide)
 ·have hlen:min e.a.toNat w.nets.length+(w.nets.length - (e.a.toNat+1))=(w.nets.eraseIdx e.a.toNat).length:=by rw[herase];simp
  have hrows:(w.nets.take e.a.toNat).map Pk.row++(w.nets.drop (e.a.toNat+1)).map Pk.row=(w.nets.eraseIdx e.a.toNat).map Pk.row:=by rw[herase,List.map_append]
  simp only[hlen,hrows]
  rw[hx3 (by assumption) (by assumption)]
  have hk:=(q6w hwe ⟨hpk,λhin=>(hw.net p (List.mem_of_getElem? hg2)).c hin⟩).1
  refine q1z (x97 { w with nets:=w.nets.eraseIdx e.a.toNat } p hwe hpk) [0,1,2,3000043] [] 52 4 (by simp only[go_sem];first|done|simp) (by simp only[go_sem];first|done|simp) (by simp) (by simp) (by rintro _ _ ⟨rfl,rfl⟩;simp) (by intro i hi;rcases(show i=0∨i=1∨i=2∨i=3 by omega) with rfl|rfl|rfl|rfl<;>simp only[go_sem]) ?_
  rintro _ _ ⟨rfl,rfl⟩
  simp only[go_sem]
  with_reducible repeat' (first|refine br ?_ ?_<;>intro h e<;>(try simp only[e,go_sem])<;>clear e|rw[q00 (by omega)]|refine sd ?_<;>try simp only[go_sem]|fail)
  generalize q2g { w with nets:=w.nets.eraseIdx e.a.toNat } p=r at *
  obtain⟨v,o⟩:=r
  simp only at hk
  have hvn:=hk.nl
  simp only[go_sem]
  with_reducible repeat' (first|refine br ?_ ?_<;>intro h e<;>(try simp only[e,go_sem])<;>clear e|rw[q00 (by omega)]|refine sd ?_<;>try simp only[go_sem]|fail)
  refine q1z (c77 v (o.getD .zero) o.isSome (by omega)) [105200,105201,105202,105203] [] 59 4 (by simp only[go_sem];first|done|simp) (by simp only[go_sem];first|done|simp) (by simp) (by simp) (by rintro _ _ ⟨rfl,rfl⟩;simp) (by intro i hi;rcases(show i=0∨i=1∨i=2∨i=3 by omega) with rfl|rfl|rfl|rfl<;>simp only[go_sem]) ?_
  rw[qg9]
  rintro _ _ ⟨rfl,rfl⟩
  simp only[go_sem]
  with_reducible repeat' (first|refine br ?_ ?_<;>intro h e<;>(try simp only[e,go_sem])<;>clear e|rw[q00 (by omega)]|refine sd ?_<;>try simp only[go_sem]|fail)
  exact q1d (c:=3000004) 105900 105901 105902 105903 (by simp only[go_sem]) (by simp only[go_sem]) (by simp only[go_sem]) (by simp only[go_sem]) (by simp only[go_sem]) (by simp only[go_sem]) (by decide)
def ic40:IC:=sR [oP 2 (.box 38 (.t 0)),oP 3 (.box 56 (.t 1)),oP 4 (.alloc 38 [.nils,.nils,.nils,.nils])] (.seq (sR [fD 7 0 3,lD 8 1 7] (.block 0 (.seq (sR [oP 10 (.bin .eql (.t 8) (cI 1)),mV 9 10] (cD 9 .skip (.reg [oP 11 (.bin .eql (.t 8) (cI 2)),mV 9 11]))) (cD 9 (sR [lA 13 4 2,lA 14 11 3,oP 15 (.call 51 [.t 13,.t 14]),mV 12 15,eX 16 12 0,eX 17 12 1,oP 5 (.alloc 54 [i0,i0,i0,i0,i0,i0,s0]),nP (.sto 7 (.t 5) (.t 16)),mV 6 17] (sR [lA 18 4 2,lA 19 7 5,mV 20 6,oP 21 (.call 77 [.t 18,.t 19,.t 20]),nP (.sto 4 (.t 4) (.t 21))] .ret)) (.seq (sR [oP 23 (.bin .eql (.t 8) (cI 3)),mV 22 23] (cD 22 .skip (sR [oP 24 (.bin .eql (.t 8) (cI 4)),mV 22 24] (cD 22 .skip (.reg [oP 25 (.bin .eql (.t 8) (cI 5)),mV 22 25]))))) (cD 22 (sR [lA 26 4 2,lA 27 11 3,oP 28 (.call 78 [.t 26,.t 27]),nP (.sto 4 (.t 4) (.t 28))] .ret) (sR [oP 30 (.bin .eql (.t 8) (cI 6)),mV 29 30] (cD 29 (.seq (.drw [0,0,2,0,0,16,56,127,255] [(0,lA 31 4 2),(1,fD 32 4 3),(2,lA 33 7 32),(3,lA 34 4 2),(4,fD 35 4 3),(5,lA 36 7 35),(6,oP 37 (.call 79 [.t 34,.t 36])),(7,oP 38 (.call 77 [.t 31,.t 33,.t 37])),(8,nP (.sto 4 (.t 4) (.t 38)))]) .ret) .skip)))))))) (sR [lA 39 4 2,nP (.sto 4 (.t 4) (.t 39))] .ret))
theorem dg40:Dg Tryz.prog 40 Tryz.f40 ic40 [(.cell 4 4 true)]:=⟨Tryz.func40,by kernel_rfl,by kernel_rfl⟩
theorem x40 {X:List (E×E)} (w:M.World) (e:Ev) (hw:WX X w) (ht:e.pkt.text.length≤2000000):FnP Tryz.prog G 40 0 [.arr 91 10 (w.convs.map Conv.row),.arr 132 3 (w.door.map.map Pair.row),.arr 130 8 (w.door.flows.map Flw.row),.arr 54 7 (w.nets.map Pk.row)] [.agg [.own 0 w.convs.length,.own 1 w.door.map.length,.own 2 w.door.flows.length,.own 3 w.nets.length],.agg [.int .i64 e.kind,.int .i64 e.a,.int .i64 e.b,.int .i64 e.c,.int .i64 e.pkt.kind,.int .i64 e.pkt.frm.a,.int .i64 e.pkt.frm.p,.int .i64 e.pkt.to.a,.int .i64 e.pkt.to.p,.int .i64 e.pkt.at_,.str e.pkt.text]] (q8j (wDo w e)):=by
 refine mP dg40 Tryz.ntmps40 ⟨_,_,rfl,rfl⟩ ?_
 have hnl:=hw.nl
 have hcl:=hw.cl
 have hml:=(q0b (q0c.1 hw.door).1).2
 have hB:∀c∈w.convs,c.up.length≤2000000∧c.down.length≤2000000:=λc hc=>by
  have hb:=q26 (hw.cv c hc)
  have h1:=hb.up
  have h2:=hb.down
  omega
 simp only[ic40,go_sem]
 with_reducible repeat' (first|refine br ?_ ?_<;>intro h e<;>(try simp only[e,go_sem])<;>clear e|rw[q00 (by omega)]|refine sd ?_<;>try simp only[go_sem]|fail)
 ·refine q34 (c51 w e (by omega) (by omega) hB) [0,1,2,3] false (by simp only[go_sem];first|done|simp[E.row,Pc.row,Pair.row,Part.row,Flw.row,Pk.row,Conv.row]) (by simp only[List.mem_cons,List.not_mem_nil,or_false];rintro c (rfl|rfl|rfl|rfl)<;>simp only[go_sem]) rfl (.inr rfl) ?_
  have hx:wDo w e=q4y w (q7l w (decide (e.kind=1)) e.a e.b e.c):=by simp[wDo,h]
  rw[hx]
  generalize q7l w (decide (e.kind=1)) e.a e.b e.c=o
  simp only[go_sem]
  with_reducible repeat' (first|refine br ?_ ?_<;>intro h e<;>(try simp only[e,go_sem])<;>clear e|rw[q00 (by omega)]|refine sd ?_<;>try simp only[go_sem]|fail)
  refine q1z (c77 w (o.getD .zero) o.isSome (by omega)) [0,1,2,3] [] 21 4 (by simp only[go_sem];first|done|simp) (by simp only[go_sem];first|done|simp) (by simp) (by simp) (by rintro _ _ ⟨rfl,rfl⟩;simp) (by intro i hi;rcases(show i=0∨i=1∨i=2∨i=3 by omega) with rfl|rfl|rfl|rfl<;>simp only[go_sem]) ?_
  rw[qg9]
  rintro _ _ ⟨rfl,rfl⟩
  simp only[go_sem]
  with_reducible repeat' (first|refine br ?_ ?_<;>intro h e<;>(try simp only[e,go_sem])<;>clear e|rw[q00 (by omega)]|refine sd ?_<;>try simp only[go_sem]|fail)
  exact q1d (c:=3000004) 102100 102101 102102 102103 (by simp only[go_sem]) (by simp only[go_sem]) (by simp only[go_sem]) (by simp only[go_sem]) (by simp only[go_sem]) (by simp only[go_sem]) (by decide)
 ·refine q34 (c51 w e (by omega) (by omega) hB) [0,1,2,3] false (by simp only[go_sem];first|done|simp[E.row,Pc.row,Pair.row,Part.row,Flw.row,Pk.row,Conv.row]) (by simp only[List.mem_cons,List.not_mem_nil,or_false];rintro c (rfl|rfl|rfl|rfl)<;>simp only[go_sem]) rfl (.inr rfl) ?_
  have hx:wDo w e=q4y w (q7l w (decide (e.kind=1)) e.a e.b e.c):=by simp[wDo,h]
  rw[hx]
  generalize q7l w (decide (e.kind=1)) e.a e.b e.c=o
  simp only[go_sem]
  with_reducible repeat' (first|refine br ?_ ?_<;>intro h e<;>(try simp only[e,go_sem])<;>clear e|rw[q00 (by omega)]|refine sd ?_<;>try simp only[go_sem]|fail)
  refine q1z (c77 w (o.getD .zero) o.isSome (by omega)) [0,1,2,3] [] 21 4 (by simp only[go_sem];first|done|simp) (by simp only[go_sem];first|done|simp) (by simp) (by simp) (by rintro _ _ ⟨rfl,rfl⟩;simp) (by intro i hi;rcases(show i=0∨i=1∨i=2∨i=3 by omega) with rfl|rfl|rfl|rfl<;>simp only[go_sem]) ?_
  rw[qg9]
  rintro _ _ ⟨rfl,rfl⟩
  simp only[go_sem]
  with_reducible repeat' (first|refine br ?_ ?_<;>intro h e<;>(try simp only[e,go_sem])<;>clear e|rw[q00 (by omega)]|refine sd ?_<;>try simp only[go_sem]|fail)
  exact q1d (c:=3000004) 102100 102101 102102 102103 (by simp only[go_sem]) (by simp only[go_sem]) (by simp only[go_sem]) (by simp only[go_sem]) (by simp only[go_sem]) (by simp only[go_sem]) (by decide)
 ·rw[qd2 w e (.inl h)]
  refine q1z (x78 w e hw) [0,1,2,3] [] 28 4 (by simp only[go_sem];first|done|simp) (by simp only[go_sem];first|done|simp) (by simp) (by simp) (by rintro _ _ ⟨rfl,rfl⟩;simp) (by intro i hi;rcases(show i=0∨i=1∨i=2∨i=3 by omega) with rfl|rfl|rfl|rfl<;>simp only[go_sem]) ?_
  rintro _ _ ⟨rfl,rfl⟩
  simp only[go_sem]
  with_reducible repeat' (first|refine br ?_ ?_<;>intro h e<;>(try simp only[e,go_sem])<;>clear e|rw[q00 (by omega)]|refine sd ?_<;>try simp only[go_sem]|fail)
  exact q1d (c:=3000004) 102800 102801 102802 102803 (by simp only[go_sem]) (by simp only[go_sem]) (by simp only[go_sem]) (by simp only[go_sem]) (by simp only[go_sem]) (by simp only[go_sem]) (by decide)
 ·rw[qd2 w e (.inr (.inl h))]
  refine q1z (x78 w e hw) [0,1,2,3] [] 28 4 (by simp only[go_sem];first|done|simp) (by simp only[go_sem];first|done|simp) (by simp) (by simp) (by rintro _ _ ⟨rfl,rfl⟩;simp) (by intro i hi;rcases(show i=0∨i=1∨i=2∨i=3 by omega) with rfl|rfl|rfl|rfl<;>simp only[go_sem]) ?_
  rintro _ _ ⟨rfl,rfl⟩
  simp only[go_sem]
  with_reducible repeat' (first|refine br ?_ ?_<;>intro h e<;>(try simp only[e,go_sem])<;>clear e|rw[q00 (by omega)]|refine sd ?_<;>try simp only[go_sem]|fail)
  exact q1d (c:=3000004) 102800 102801 102802 102803 (by simp only[go_sem]) (by simp only[go_sem]) (by simp only[go_sem]) (by simp only[go_sem]) (by simp only[go_sem]) (by simp only[go_sem]) (by decide)
 ·rw[qd2 w e (.inr (.inr h))]
  refine q1z (x78 w e hw) [0,1,2,3] [] 28 4 (by simp only[go_sem];first|done|simp) (by simp only[go_sem];first|done|simp) (by simp) (by simp) (by rintro _ _ ⟨rfl,rfl⟩;simp) (by intro i hi;rcases(show i=0∨i=1∨i=2∨i=3 by omega) with rfl|rfl|rfl|rfl<;>simp only[go_sem]) ?_
  rintro _ _ ⟨rfl,rfl⟩
  simp only[go_sem]
  with_reducible repeat' (first|refine br ?_ ?_<;>intro h e<;>(try simp only[e,go_sem])<;>clear e|rw[q00 (by omega)]|refine sd ?_<;>try simp only[go_sem]|fail)
  exact q1d (c:=3000004) 102800 102801 102802 102803 (by simp only[go_sem]) (by simp only[go_sem]) (by simp only[go_sem]) (by simp only[go_sem]) (by simp only[go_sem]) (by simp only[go_sem]) (by decide)
 ·have hx:wDo w e=q4y w (bif q28 w e.pkt then some e.pkt else none):=by
   simp only[wDo,h]
   cases q28 w e.pkt<;>simp[q4y]
  rw[hx]
  refine q34 (c79 w e.pkt (by omega) ht) [0,1,2,3] false (by simp only[go_sem];first|done|simp[E.row,Pc.row,Pair.row,Part.row,Flw.row,Pk.row,Conv.row]) (by simp only[List.mem_cons,List.not_mem_nil,or_false];rintro c (rfl|rfl|rfl|rfl)<;>simp only[go_sem]) rfl (.inr rfl) ?_
  generalize q28 w e.pkt=o
  simp only[go_sem]
  with_reducible repeat' (first|refine br ?_ ?_<;>intro h e<;>(try simp only[e,go_sem])<;>clear e|rw[q00 (by omega)]|refine sd ?_<;>try simp only[go_sem]|fail)
  refine q1z (c77 w e.pkt o (by omega)) [0,1,2,3] [] 38 4 (by simp only[go_sem];first|done|simp) (by simp only[go_sem];first|done|simp) (by simp) (by simp) (by rintro _ _ ⟨rfl,rfl⟩;simp) (by intro i hi;rcases(show i=0∨i=1∨i=2∨i=3 by omega) with rfl|rfl|rfl|rfl<;>simp only[go_sem]) ?_
  rintro _ _ ⟨rfl,rfl⟩
  simp only[go_sem]
  with_reducible repeat' (first|refine br ?_ ?_<;>intro h e<;>(try simp only[e,go_sem])<;>clear e|rw[q00 (by omega)]|refine sd ?_<;>try simp only[go_sem]|fail)
  exact q1d (c:=3000004) 103800 103801 103802 103803 (by simp only[go_sem]) (by simp only[go_sem]) (by simp only[go_sem]) (by simp only[go_sem]) (by simp only[go_sem]) (by simp only[go_sem]) (by decide)
 ·have hx:wDo w e=w:=by simp only[wDo];simp[*]
  rw[hx]
  exact q1d (c:=3000004) 0 1 2 3 (by simp only[go_sem]) (by simp only[go_sem]) (by simp only[go_sem]) (by simp only[go_sem]) (by simp only[go_sem]) (by simp only[go_sem]) (by decide)
def ic47:IC:=sR [oP 2 (.mv cF)] (.seq (sR [oP 3 (.mv (.c i0))] (.block 0 (.loop (.seq (sR [mV 5 3,mV 6 0,oP 7 (.len (.t 6)),bN 8 .lss 5 7] (cD 8 .skip (.exit 0))) (.seq (.block 1 (.seq (sR [oP 4 (.mv (.c i0))] (.block 2 (.loop (.seq (sR [mV 11 4,mV 12 3,bN 13 .lss 11 12] (cD 13 .skip (.exit 2))) (.seq (.block 3 (.seq (.drw [0,0,3,7,15,0,0,96,224,480,1023,2047,4095,4095,16383,32767,65535,4095,4095,397311,921599,1970175,4194303,8388607] [(0,mV 16 0),(1,mV 17 4),(2,oP 18 (.iad 10 (.t 16) (.t 17))),(3,fD 19 0 18),(4,lA 20 2 19),(5,mV 21 0),(6,mV 22 3),(7,oP 23 (.iad 10 (.t 21) (.t 22))),(8,fD 24 0 23),(9,lA 25 2 24),(10,oP 26 (.eqs false [.i,.i] (.t 20) (.t 25))),(11,mV 27 26),(12,gF 28 27 (.mv (.t 0))),(13,gF 29 27 (.mv (.t 4))),(14,gF 30 27 (.iad 10 (.t 28) (.t 29))),(15,gF 31 27 (.fad 2 (.t 30))),(16,gF 32 27 (.ld 2 true (.t 31))),(17,gF 33 27 (.mv (.t 0))),(18,gF 34 27 (.mv (.t 3))),(19,gF 35 27 (.iad 10 (.t 33) (.t 34))),(20,gF 36 27 (.fad 2 (.t 35))),(21,gF 37 27 (.ld 2 true (.t 36))),(22,gF 38 27 (.eqs false [.i,.i] (.t 32) (.t 37))),(23,pT 39 27 38)]) (cD 39 (sR [oP 2 (.mv cF)] .ret) .skip))) (.reg [mV 14 4,oP 15 (.bin .add (.t 14) (cI 1)),mV 4 15])))))) (sR [mV 40 0,mV 41 3,oP 42 (.iad 10 (.t 40) (.t 41)),lA 43 10 42,oP 44 (.call 90 [.t 43]),oP 45 (.un .not (.t 44))] (cD 45 (sR [oP 2 (.mv cF)] .ret) .skip)))) (.reg [mV 9 3,oP 10 (.bin .add (.t 9) (cI 1)),mV 3 10])))))) (sR [mV 46 0,oP 47 (.len (.t 46)),oP 48 (.bin .leq (.t 47) (cI 2)),mV 2 48] .ret))
theorem dg47:Dg Tryz.prog 47 Tryz.f47 ic47 [(.t 2)]:=⟨Tryz.func47,by kernel_rfl,by kernel_rfl⟩
theorem c47 (cs:List Conv) (hl:cs.length≤2000000) (hB:∀c∈cs,(c.up.length≤2000000∧c.down.length≤2000000)∧c.upGot.length≤2000000∧c.downGot.length≤2000000):FnR Tryz.prog G 47 [.sl 10 (cs.map Conv.row)] (.bool (q1e cs)):=by
 refine mF dg47 Tryz.ntmps47 ?_
 simp only[ic47,go_sem]
 refine q0d (λi:Nat=>⟨q0e [(0,.sl 10 (cs.map Conv.row)),(3,.int .i64 (i:Int))],q01 []⟩) (λi=>cs.length - i) (λi=>i≤cs.length∧∀j,j<i→q89 cs j=true) 0 (leQ []) ⟨Nat.zero_le _,by omega⟩ ?_
 intro i ⟨hi,ha⟩
 simp only[go_sem]
 by_cases h:(i:Int)<cs.length
 ·have hil:i<cs.length:=by omega
  have hg:cs.getD i default=cs[i]:=by simp[List.getD,hil]
  have hok:=qbc hil
  obtain⟨⟨b1,b2⟩,b3,b4⟩:=hB _ (List.getElem_mem hil)
  simp only[eq_true h,go_sem]
  refine q0d (λk:Nat=>⟨q0e [(0,.sl 10 (cs.map Conv.row)),(3,.int .i64 (i:Int)),(4,.int .i64 (k:Int))],q01 []⟩) (λk=>i - k) (λk=>k≤i∧(cs.take k).any (λo=>decide (o.ins=cs[i].ins)||decide (o.out=cs[i].out))=false) 0 (leQ []) ⟨Nat.zero_le _,by simp⟩ ?_
  intro k ⟨hk,hka⟩
  simp only[go_sem]
  by_cases h2:(k:Int)<i
  ·have hkl:k<cs.length:=by omega
   have hgk:cs.getD k default=cs[k]:=by simp[List.getD,hkl]
   simp only[eq_true h2,go_sem]
   have bad:(cs[k].ins=cs[i].ins∨cs[k].out=cs[i].out)→q1e cs=false:=λhb=>q84 hil (by
    have:(cs.take i).any (λo=>decide (o.ins=cs[i].ins)||decide (o.out=cs[i].out))=true:=List.any_eq_true.2 ⟨cs[k],List.mem_iff_getElem?.2 ⟨k,by rw[List.getElem?_take,if_pos (by omega)];exact zE hkl⟩,by simpa using hb⟩
    rw[hok,this];simp)
   with_reducible repeat' (first|refine br ?_ ?_<;>intro h e<;>(try simp only[e,go_sem,hg,hgk,E.ext_iff'])<;>clear e|rw[q00 (by omega)]|refine sd ?_<;>try simp only[go_sem,hg,hgk,E.ext_iff']|fail)
   ·exact bad (.inl (by assumption))
   ·exact bad (.inr (by assumption))
   ·refine⟨k+1,by omega,⟨by omega, ?_⟩,(leQ [])⟩
    rw[List.take_add_one,zE hkl]
    simp only[Option.toList_some,List.any_append,hka,List.any_cons,List.any_nil,Bool.or_false,Bool.false_or,Bool.or_eq_false_iff,decide_eq_false_iff_not]
    exact⟨by assumption,by assumption⟩
  ·simp only[eq_false h2,go_sem]
   obtain rfl:k=i:=by omega
   have c1:=c90 cs[k] b1 b2 b3 b4
   with_reducible repeat' (first|refine br ?_ ?_<;>intro h e<;>(try simp only[e,go_sem,hg])<;>clear e|rw[q00 (by omega)]|refine sd ?_<;>try simp only[go_sem,hg]|(first|refine cr (c1 ..) ?_)<;>try simp only[go_sem,hg]|fail)
   ·refine⟨k+1,by omega,⟨by omega,λj hj=>?_⟩,(leQ [])⟩
    rcases Nat.lt_or_ge j k with hjk|hjk
    ·exact ha j hjk
    ·obtain rfl:j=k:=by omega
     rw[hok,hka];simp[*]
   ·exact q84 hil (by rw[hok];simp[*])
 ·simp only[eq_false h,go_sem]
  have:i=cs.length:=by omega
  subst this
  with_reducible repeat' (first|refine br ?_ ?_<;>intro h e<;>(try simp only[e,go_sem])<;>clear e|rw[q00 (by omega)]|refine sd ?_<;>try simp only[go_sem]|fail)
  have h1:=q2y (cs:=cs)
  by_cases h2:cs.length≤2
  ·rw[h1.2 ⟨h2,ha⟩];exact(decide_eq_true (by omega)).symm
  ·have:q1e cs=false:=by
    cases ht:q1e cs with
    | false=>rfl
    | true=>exact absurd (h1.1 ht).1 h2
   rw[this];exact(decide_eq_false (by omega)).symm
theorem bff:(false==false)=true:=rfl
theorem btt:(true==true)=true:=rfl
theorem q2l:World.zero=⟨[],⟨[],[]⟩,[]⟩:=rfl
def qje (p:Pk):Bool:=!qbm p
def ic58:IC:=sR [oP 1 (.box 54 (.t 0)),oP 2 (.mv cF)] (sR [lA 3 7 1,oP 4 (.call 59 [.t 3]),oP 5 (.un .not (.t 4)),mV 2 5] .ret)
theorem dg58:Dg Tryz.prog 58 Tryz.f58 ic58 [(.t 2)]:=⟨Tryz.func58,by kernel_rfl,by kernel_rfl⟩
theorem c58 (p:Pk) (h:p.text.length≤2000000):FnR Tryz.prog G 58 [.agg [.int .i64 p.kind,.int .i64 p.frm.a,.int .i64 p.frm.p,.int .i64 p.to.a,.int .i64 p.to.p,.int .i64 p.at_,.str p.text]] (.bool (qje p)):=by
 refine mF dg58 Tryz.ntmps58 ?_
 have f:=c59 p h
 unfold qje
 simp only[ic58,go_sem]
 with_reducible repeat' (first|refine br ?_ ?_<;>intro h e<;>(try simp only[e,go_sem])<;>clear e|rw[q00 (by omega)]|refine sd ?_<;>try simp only[go_sem]|(first|refine cr (f ..) ?_)<;>try simp only[go_sem]|fail)
def qw5:IC:=sR [oP 4 (.mv (.c i0))] (.seq (sR [mV 6 0,oP 7 (.len (.t 6)),oP 8 (.mv (.c i0))] (.block 0 (.loop (sR [bN 9 .lss 8 7] (.seq (cD 9 .skip (.exit 0)) (.seq (.block 1 (sR [mV 10 8,mV 5 10] (sR [mV 11 1,mV 12 0,mV 13 5,oP 14 (.iad 7 (.t 12) (.t 13)),lA 15 7 14,oP 16 (.cal (.t 11) [.t 15])] (cD 16 (sR [mV 17 5,mV 4 17] .ret) .skip)))) (.reg [oP 18 (.bin .add (.t 8) (cI 1)),mV 8 18]))))))) (sR [oP 4 (.mv (.c (.int .i64 (-1))))] .ret))
theorem dg109:Dg Tryz.prog 109 Tryz.f109 qw5 [(.t 4)]:=⟨Tryz.func109,by kernel_rfl,by kernel_rfl⟩
theorem c109 (l:List Pk) (hl:l.length≤2000000) (ht:∀p∈l,p.text.length≤2000000):FnR Tryz.prog G 109 [.sl 7 (l.map Pk.row),.fn 58 []] (.int .i64 (ixI (l.findIdx? qje))):=by
 refine mF dg109 Tryz.ntmps109 ?_
 simp only[qw5,go_sem]
 refine q0d (λk:Nat=>⟨q0e [(0,.sl 7 (l.map Pk.row)),(1,.fn 58 []),(7,.int .i64 l.length),(8,.int .i64 (k:Int))],q01 []⟩) (λk=>l.length - k)
  (λk=>k≤l.length∧(l.take k).any qje=false) 0 (leQ []) ⟨Nat.zero_le _,by simp⟩ ?_
 intro k ⟨hk,ha⟩
 simp only[go_sem]
 by_cases h:(k:Int)<l.length
 ·have hil:k<l.length:=by omega
  have hg:l.getD k default=l[k]:=by simp[List.getD,hil]
  have hy:=q4j hil ha
  have hs:=q5h hil ha
  have f:=c58 l[k] (ht _ (List.getElem_mem hil))
  simp only[eq_true h,go_sem]
  refine effG (by omega) ?_
  simp only[hg,go_sem]
  refine q0m f rfl rfl ?_
  simp only[go_sem]
  with_reducible repeat' (first|refine br ?_ ?_<;>intro h e<;>(try simp only[e,go_sem])<;>clear e|rw[q00 (by omega)]|refine sd ?_<;>try simp only[go_sem]|fail)
  ·rw[hy (by assumption)];rfl
  ·exact⟨k+1,by omega,⟨by omega,hs (by assumption)⟩,(leQ [])⟩
 ·simp only[eq_false h,go_sem]
  have:k=l.length:=by omega
  subst this
  rw[List.take_length] at ha
  rw[q47 ha];rfl
def ic57:IC:=sR [oP 4 (.mv cF)] (sR [mV 5 0,mV 6 1,oP 7 (.call 109 [.t 5,.t 6]),oP 8 (.bin .geq (.t 7) (.c i0)),mV 4 8] .ret)
theorem dg57:Dg Tryz.prog 57 Tryz.f57 ic57 [(.t 4)]:=⟨Tryz.func57,by kernel_rfl,by kernel_rfl⟩
theorem c57 (l:List Pk) (hl:l.length≤2000000) (ht:∀p∈l,p.text.length≤2000000):FnR Tryz.prog G 57 [.sl 7 (l.map Pk.row),.fn 58 []] (.bool (l.any qje)):=by
 refine mF dg57 Tryz.ntmps57 ?_
 simp only[ic57,go_sem]
 refine q0m (c109 l hl ht) rfl rfl ?_
 simp only[go_sem,qbe]
theorem qot (l:List Pk):(!l.any qje)=l.all qbm:=by
 induction l with
 | nil=>rfl
 | cons p l ih=>simp[qje,←ih]
structure WS (w:M.World):Prop where
 cl:w.convs.length≤2000000
 cb:∀c∈w.convs,(c.up.length≤2000000∧c.down.length≤2000000)∧c.upGot.length≤2000000∧c.downGot.length≤2000000
 db:DB w.door
 nl:w.nets.length≤2000000
 nt:∀p∈w.nets,p.text.length≤2000000
def ic26:IC:=sR [oP 1 (.box 38 (.t 0)),oP 2 (.mv cF)] (sR [fD 3 0 1,lD 4 1 3,oP 5 (.call 55 [.t 4]),mV 6 5,gT 7 6 (.fad 1 (.t 1)),gT 8 6 (.ld 2 true (.t 7)),gT 9 6 (.call 56 [.t 8]),pF 10 6 9,mV 11 10,gT 12 11 (.fad 3 (.t 1)),gT 13 11 (.ld 1 false (.t 12)),gT 14 11 (.len (.t 13)),gT 15 11 (.bin .leq (.t 14) (cI 10)),pF 16 11 15,mV 17 16,gT 18 17 (.fad 3 (.t 1)),gT 19 17 (.ld 1 false (.t 18)),gT 20 17 (.call 57 [.t 19,.c (.fn 58 [])]),gT 21 17 (.un .not (.t 20)),pF 22 17 21,mV 2 22] .ret)
theorem dg26:Dg Tryz.prog 26 Tryz.f26 ic26 [(.t 2)]:=⟨Tryz.func26,by kernel_rfl,by kernel_rfl⟩
theorem c26 (w:M.World) (h:WS w):FnR Tryz.prog G 26 [.agg [.sl 10 (w.convs.map Conv.row),.sl 3 (w.door.map.map Pair.row),.sl 8 (w.door.flows.map Flw.row),.sl 7 (w.nets.map Pk.row)]] (.bool (q0v w)):=by
 refine mF dg26 Tryz.ntmps26 ?_
 have f1:=c55 w.convs h.cl h.cb
 have f2:=c56 w.door h.db
 have f3:=c57 w.nets h.nl h.nt
 have e:q0v w=(q1e w.convs&&doorOk w.door&&decide (w.nets.length≤10)&&!w.nets.any qje):=by rw[qot];rfl
 rw[e]
 generalize q1e w.convs=b1 at *
 generalize doorOk w.door=b2 at *
 generalize w.nets.any qje=b3 at *
 simp only[ic26,go_sem]
 with_reducible repeat' (first|refine br ?_ ?_<;>intro h e<;>(try simp only[e,go_sem])<;>clear e|rw[q00 (by omega)]|refine sd ?_<;>try simp only[go_sem]|(first|refine cr (f1 ..) ?_|refine cr (f2 ..) ?_|refine cr (f3 ..) ?_)<;>try simp only[go_sem]|fail)
 all_goals first|done|(clear f1 f2 f3 e;simp_all;done)|(clear f1 f2 f3 e;simp_all;omega)|trace_state
theorem qkc {X:List (E×E)} {w:M.World} (h:WX X w):WS w:=by
 obtain⟨hdm,hdf,_⟩:=q0c.1 h.door
 have hm:=(q0b hdm).2
 have hcl:=h.cl
 have hnl:=h.nl
 refine⟨by omega,λc hc=>?_,⟨by omega,by omega,λf hf=>?_⟩,by omega,λp hp=>?_⟩
 ·have:=q26 (h.cv c hc)
  have h1:=this.up;have h2:=this.down;have h3:=this.upGot;have h4:=this.downGot
  omega
 ·obtain⟨k,hk⟩:=List.mem_iff_getElem?.1 hf
  obtain⟨_,_,h1,h2,_⟩:=q2n h.door hk
  exact⟨(q0t h1).sb,(q0t h2).sb⟩
 ·have:=(h.net p hp).pk.len
  omega
def ic15:IC:=sR [oP 2 (.box 38 (.t 0)),oP 3 (.box 56 (.t 1)),oP 4 (.alloc 38 [.nils,.nils,.nils,.nils])] (.seq (sR [lA 6 4 2,oP 7 (.call 26 [.t 6]),oP 8 (.un .not (.t 7))] (cD 8 (sR [oP 9 (.build [.nils,.nils,.nils,.nils] []),nP (.sto 4 (.t 4) (.t 9))] .ret) .skip)) (sR [lA 10 4 2,oP 11 (.call 28 [.t 10]),oP 5 (.alloc 38 [.nils,.nils,.nils,.nils]),nP (.sto 4 (.t 5) (.t 11))] (sR [lA 12 11 3,oP 13 (.call 42 [.t 5,.t 12])] (sR [lA 14 4 5,oP 15 (.call 28 [.t 14]),nP (.sto 4 (.t 4) (.t 15))] .ret))))
theorem dg15:Dg Tryz.prog 15 Tryz.f15 ic15 [(.cell 4 4 true)]:=⟨Tryz.func15,by kernel_rfl,by kernel_rfl⟩
theorem x15 {X:List (E×E)} (w:M.World) (e:Ev) (hw:WX X w) (hok:q0v w=true) (ht:e.pkt.text.length≤2000000):FnR Tryz.prog G 15 [.agg [.sl 10 (w.convs.map Conv.row),.sl 3 (w.door.map.map Pair.row),.sl 8 (w.door.flows.map Flw.row),.sl 7 (w.nets.map Pk.row)],.agg [.int .i64 e.kind,.int .i64 e.a,.int .i64 e.b,.int .i64 e.c,.int .i64 e.pkt.kind,.int .i64 e.pkt.frm.a,.int .i64 e.pkt.frm.p,.int .i64 e.pkt.to.a,.int .i64 e.pkt.to.p,.int .i64 e.pkt.at_,.str e.pkt.text]] (.agg [.sl 10 ((wDo w e).convs.map Conv.row),.sl 3 ((wDo w e).door.map.map Pair.row),.sl 8 ((wDo w e).door.flows.map Flw.row),.sl 7 ((wDo w e).nets.map Pk.row)]):=by
 refine mF dg15 Tryz.ntmps15 ?_
 have f1:=c26 w (qkc hw)
 rw[hok] at f1
 simp only[ic15,go_sem]
 with_reducible repeat' (first|refine br ?_ ?_<;>intro h e<;>(try simp only[e,go_sem])<;>clear e|rw[q00 (by omega)]|refine sd ?_<;>try simp only[go_sem]|(first|refine cr (f1 ..) ?_)<;>try simp only[go_sem]|fail)
 refine q14 (o28 w hw) [] 11 3 (by simp only[go_sem];first|done|simp) (by simp) (by rintro _ _ ⟨rfl,rfl⟩;simp) (by intro i hi;rcases(show i=0∨i=1∨i=2 by omega) with rfl|rfl|rfl<;>simp only[go_sem]) ?_
 rintro _ _ ⟨rfl,rfl⟩
 simp only[go_sem]
 with_reducible repeat' (first|refine br ?_ ?_<;>intro h e<;>(try simp only[e,go_sem])<;>clear e|rw[q00 (by omega)]|refine sd ?_<;>try simp only[go_sem]|fail)
 refine q1k (x42 w e hw ht) [3000005,101101,101100,101102] [] true 13 4 (by simp only[go_sem];first|done|simp) (by simp only[go_sem];first|done|simp) (by simp) (by simp) (by simp) ?_ ?_ ?_
 ·rintro _ _ ⟨rfl,v',hv',rfl⟩
  exact⟨by simp,by simp,.inl rfl,λi hi=>by obtain rfl:i=0:=(by omega);simp[chH,q0h]⟩
 ·intro i hi
  rcases(show i=0∨i=1∨i=2∨i=3 by omega) with rfl|rfl|rfl|rfl<;>simp only[go_sem]
 rintro _ _ ⟨rfl,v,hv,rfl⟩
 have hwv:WX X v:=by rw[hv];exact qqu hw e
 rw[←hv]
 simp only[go_sem]
 with_reducible repeat' (first|refine br ?_ ?_<;>intro h e<;>(try simp only[e,go_sem])<;>clear e|rw[q00 (by omega)]|refine sd ?_<;>try simp only[go_sem]|fail)
 refine q34 (x28 v hwv) [101302,101301,101303] true (by simp only[go_sem];simp) (by simp only[List.mem_cons,List.not_mem_nil,or_false];rintro c (rfl|rfl|rfl)<;>simp only[go_sem]) rfl (.inl rfl) ?_
 simp only[go_sem]
 with_reducible repeat' (first|refine br ?_ ?_<;>intro h e<;>(try simp only[e,go_sem])<;>clear e|rw[q00 (by omega)]|refine sd ?_<;>try simp only[go_sem]|fail)
def ic8:IC:=sR [oP 2 (.box 38 (.t 0)),oP 4 (.alloc 38 [.nils,.nils,.nils,.nils])] (.seq (sR [lA 6 4 2,oP 7 (.call 26 [.t 6]),oP 8 (.un .not (.t 7)),mV 9 8,gF 10 9 (.mv (.t 1)),gF 11 9 (.call 27 [.t 10,.c i0,cI 6]),gF 12 9 (.un .not (.t 11)),pT 13 9 12] (cD 13 (sR [oP 14 (.build [.nils,.nils,.nils,.nils] []),nP (.sto 4 (.t 4) (.t 14))] .ret) .skip)) (sR [lA 15 4 2,oP 16 (.call 28 [.t 15]),oP 5 (.alloc 38 [.nils,.nils,.nils,.nils]),nP (.sto 4 (.t 5) (.t 16))] (.seq (sR [mV 17 1,oP 18 (.mv (.c i0))] (.block 0 (.loop (sR [bN 19 .lss 18 17] (.seq (cD 19 .skip (.exit 0)) (.seq (.block 1 (.reg [oP 20 (.call 29 [.t 5])])) (.reg [oP 21 (.bin .add (.t 18) (cI 1)),mV 18 21]))))))) (sR [lA 22 4 5,oP 23 (.call 28 [.t 22]),nP (.sto 4 (.t 4) (.t 23))] .ret))))
theorem dg8:Dg Tryz.prog 8 Tryz.f8 ic8 [(.cell 4 4 true)]:=⟨Tryz.func8,by kernel_rfl,by kernel_rfl⟩
theorem x8 {X:List (E×E)} (w:M.World) (n:Nat) (hn:n≤6) (hw:WX X w) (hok:q0v w=true):FnR Tryz.prog G 8 [.agg [.sl 10 (w.convs.map Conv.row),.sl 3 (w.door.map.map Pair.row),.sl 8 (w.door.flows.map Flw.row),.sl 7 (w.nets.map Pk.row)],.int .i64 (n:Int)] (.agg [.sl 10 ((rounds n w).convs.map Conv.row),.sl 3 ((rounds n w).door.map.map Pair.row),.sl 8 ((rounds n w).door.flows.map Flw.row),.sl 7 ((rounds n w).nets.map Pk.row)]):=by
 refine mF dg8 Tryz.ntmps8 ?_
 have f1:=c26 w (qkc hw)
 rw[hok] at f1
 have hwi:q0j (n:Int) 0 6=true:=M.within_iff.2 (by omega)
 simp only[ic8,go_sem]
 with_reducible repeat' (first|refine br ?_ ?_<;>intro h e<;>(try simp only[e,go_sem,hwi])<;>clear e|rw[q00 (by omega)]|refine sd ?_<;>try simp only[go_sem,hwi]|(first|refine cr (f1 ..) ?_|refine cr (c27 ..) ?_)<;>try simp only[go_sem,hwi]|fail)
 refine q14 (o28 w hw) [] 16 3 (by simp only[go_sem];first|done|simp) (by simp) (by rintro _ _ ⟨rfl,rfl⟩;simp) (by intro i hi;rcases(show i=0∨i=1∨i=2 by omega) with rfl|rfl|rfl<;>simp only[go_sem]) ?_
 rintro _ _ ⟨rfl,rfl⟩
 simp only[go_sem]
 with_reducible repeat' (first|refine br ?_ ?_<;>intro h e<;>(try simp only[e,go_sem])<;>clear e|rw[q00 (by omega)]|refine sd ?_<;>try simp only[go_sem]|fail)
 refine q0d (λa:Nat×M.World=>⟨q0e [(4,.pv 3000004 0),(5,.pv 3000005 0),(17,.int .i64 (n:Int)),(18,.int .i64 (a.1:Int))],q01 [(3000004,.var 38 [.nils,.nils,.nils,.nils]),(3000005,.var 38 [.own 101600 a.2.convs.length,.sl 3 (a.2.door.map.map Pair.row),.own 101601 a.2.door.flows.length,.own 101602 a.2.nets.length]),(101601,.arr 130 8 (a.2.door.flows.map Flw.row)),(101600,.arr 91 10 (a.2.convs.map Conv.row)),(101602,.arr 54 7 (a.2.nets.map Pk.row))]⟩)
  (λa=>n - a.1) (λa=>a.1≤n∧WX X a.2∧rounds n w=rounds (n - a.1) a.2) (0,w) (leQ []) ⟨Nat.zero_le _,hw,rfl⟩ ?_
 intro⟨k,v⟩ ⟨hk,hv,he⟩
 simp only at hk hv he
 simp only[go_sem]
 by_cases h:(k:Int)<n
 ·rw[show n - k=(n - (k+1))+1 by omega] at he
  simp only[eq_true h,go_sem]
  refine q1k (c29 v hv) [3000005,101601,101600,101602] [] true 20 4 (by simp only[go_sem];first|done|simp) (by simp only[go_sem];first|done|simp) (by simp) (by simp) (by simp) ?_ ?_ ?_
  ·rintro _ _ ⟨rfl,v',hv',rfl⟩
   exact⟨by simp,by simp,.inl rfl,λi hi=>by obtain rfl:i=0:=(by omega);simp[chH,q0h]⟩
  ·intro i hi
   rcases(show i=0∨i=1∨i=2∨i=3 by omega) with rfl|rfl|rfl|rfl<;>simp only[go_sem]
  rintro _ _ ⟨rfl,v',hv',rfl⟩
  simp only[go_sem]
  with_reducible repeat' (first|rw[q00 (by omega)];try simp only[go_sem]|refine br ?_ ?_<;>intro h e<;>(try simp only[e,go_sem])<;>clear e|refine sd ?_<;>try simp only[go_sem]|fail)
  exact⟨(k+1,v'),by simp only;omega,⟨by simp only;omega,by rw[hv'];exact hv.round,by rw[hv'];exact he⟩,(leQ [(101601,102001),(101600,102002),(101602,102003)])⟩
 ·simp only[eq_false h,go_sem]
  obtain rfl:k=n:=by omega
  rw[Nat.sub_self] at he
  rw[show rounds k w=v from he]
  refine q34 (x28 v hv) [101600,101601,101602] true (by simp only[go_sem];simp) (by simp only[List.mem_cons,List.not_mem_nil,or_false];rintro c (rfl|rfl|rfl)<;>simp only[go_sem]) rfl (.inl rfl) ?_
  simp only[go_sem]
  with_reducible repeat' (first|refine br ?_ ?_<;>intro h e<;>(try simp only[e,go_sem])<;>clear e|rw[q00 (by omega)]|refine sd ?_<;>try simp only[go_sem]|fail)
def ic19:IC:=sR [oP 1 (.box 38 (.t 0)),oP 2 (.mv cF)] (.seq (sR [oP 3 (.mv (.c i0))] (.block 0 (.loop (.seq (sR [mV 4 3,fD 5 3 1,lD 6 1 5,oP 7 (.len (.t 6)),bN 8 .lss 4 7] (cD 8 .skip (.exit 0))) (.seq (.block 1 (sR [fD 11 3 1,lD 12 1 11,mV 13 3,oP 14 (.iad 7 (.t 12) (.t 13)),lA 15 7 14,oP 16 (.call 46 [.t 15]),oP 17 (.un .not (.t 16))] (cD 17 (sR [oP 2 (.mv cF)] .ret) .skip))) (.reg [mV 9 3,oP 10 (.bin .add (.t 9) (cI 1)),mV 3 10])))))) (sR [fD 18 0 1,lD 19 1 18,oP 20 (.call 47 [.t 19]),mV 21 20,gT 22 21 (.fad 1 (.t 1)),gT 23 21 (.ld 2 true (.t 22)),gT 24 21 (.call 48 [.t 23]),pF 25 21 24,mV 26 25,gT 27 26 (.fad 3 (.t 1)),gT 28 26 (.ld 1 false (.t 27)),gT 29 26 (.len (.t 28)),gT 30 26 (.bin .leq (.t 29) (cI 10)),pF 31 26 30,mV 2 31] .ret))
theorem dg19:Dg Tryz.prog 19 Tryz.f19 ic19 [(.t 2)]:=⟨Tryz.func19,by kernel_rfl,by kernel_rfl⟩
theorem c19 (w:M.World) (h:WS w):FnR Tryz.prog G 19 [.agg [.sl 10 (w.convs.map Conv.row),.sl 3 (w.door.map.map Pair.row),.sl 8 (w.door.flows.map Flw.row),.sl 7 (w.nets.map Pk.row)]] (.bool (q0v w)):=by
 refine mF dg19 Tryz.ntmps19 ?_
 have f1:=c47 w.convs h.cl h.cb
 have f2:=c48 w.door h.db
 have e:q0v w=(q1e w.convs&&doorOk w.door&&decide (w.nets.length≤10)&&w.nets.all qbm):=rfl
 simp only[ic19,go_sem]
 refine q0d (λk:Nat=>⟨q0e [(1,.pv 3000001 0),(3,.int .i64 (k:Int))],q01 [(3000001,.var 38 [.sl 10 (w.convs.map Conv.row),.sl 3 (w.door.map.map Pair.row),.sl 8 (w.door.flows.map Flw.row),.sl 7 (w.nets.map Pk.row)])]⟩) (λk=>w.nets.length - k) (λk=>k≤w.nets.length∧(w.nets.take k).all qbm=true) 0 (leQ []) ⟨Nat.zero_le _,by simp⟩ ?_
 intro k ⟨hk,ha⟩
 simp only[go_sem]
 by_cases hh:(k:Int)<w.nets.length
 ·have hil:k<w.nets.length:=by omega
  have hg:w.nets.getD k default=w.nets[k]:=by simp[List.getD,hil]
  have fp:=c46 w.nets[k] (h.nt _ (List.getElem_mem hil))
  cases hb:qbm w.nets[k] with
  | false =>
    rw[hb] at fp
    have hbad:q0v w=false:=by
     rw[e]
     have:w.nets.all qbm=false:=by
      cases hx:w.nets.all qbm with
      | false=>rfl
      | true =>
        have:=List.all_eq_true.1 hx _ (List.getElem_mem hil)
        rw[hb] at this
        cases this
     rw[this,Bool.and_false]
    simp only[eq_true hh,go_sem]
    generalize w.nets[k]=q at *
    with_reducible repeat' (first|refine br ?_ ?_<;>intro h e<;>(try simp only[e,go_sem,q03 hil,hg])<;>clear e|rw[q00 (by omega)]|refine sd ?_<;>try simp only[go_sem,q03 hil,hg]|(first|refine cr (fp ..) ?_)<;>try simp only[go_sem,q03 hil,hg]|fail)
    all_goals first|done|exact hbad|simp[hbad]
  | true =>
    rw[hb] at fp
    have hst:(w.nets.take (k+1)).all qbm=true:=by
     rw[List.take_add_one,zE hil]
     simp only[Option.toList_some,List.all_append,ha,List.all_cons,List.all_nil,Bool.and_true,hb]
    simp only[eq_true hh,go_sem]
    generalize w.nets[k]=q at *
    have hnl:=h.nl
    with_reducible repeat' (first|rw[q00 (by omega)];try simp only[go_sem,q03 hil,hg]|refine br ?_ ?_<;>intro h e<;>(try simp only[e,go_sem,q03 hil,hg])<;>clear e|refine sd ?_<;>try simp only[go_sem,q03 hil,hg]|(first|refine cr (fp ..) ?_)<;>try simp only[go_sem,q03 hil,hg]|fail)
    exact⟨k+1,by omega,⟨by omega,hst⟩,(leQ [])⟩
 ·simp only[eq_false hh,go_sem]
  obtain rfl:k=w.nets.length:=by omega
  rw[List.take_length] at ha
  have e2:q0v w=(q1e w.convs&&doorOk w.door&&decide (w.nets.length≤10)):=by rw[e,ha,Bool.and_true]
  rw[e2]
  clear e e2 ha
  generalize q1e w.convs=b1 at *
  generalize doorOk w.door=b2 at *
  with_reducible repeat' (first|refine br ?_ ?_<;>intro h e<;>(try simp only[e,go_sem])<;>clear e|rw[q00 (by omega)]|refine sd ?_<;>try simp only[go_sem]|(first|refine cr (f1 ..) ?_|refine cr (f2 ..) ?_)<;>try simp only[go_sem]|fail)
  all_goals first|done|(clear f1 f2;simp_all;done)|(clear f1 f2;simp_all;omega)|trace_state
def ic21:IC:=sR [oP 1 (.box 38 (.t 0)),oP 2 (.alloc 38 [.nils,.nils,.nils,.nils])] (.seq (.drw [0,0,2,7,0,16,63,0,0,256,1023,2047,4095] [(0,oP 3 (.bsl 91 10 [])),(1,fD 4 0 1),(2,lD 5 1 4),(3,oP 6 (.app 91 10 (.t 3) (.t 5))),(4,fD 7 1 1),(5,lA 8 2 7),(6,oP 9 (.call 49 [.t 8])),(7,oP 10 (.bsl 54 7 [])),(8,fD 11 3 1),(9,lD 12 1 11),(10,oP 13 (.app 54 7 (.t 10) (.t 12))),(11,oP 14 (.build [.nils,.nils,.nils,.nils] [(0,(1,.t 6)),(1,(2,.t 9)),(3,(1,.t 13))])),(12,nP (.sto 4 (.t 2) (.t 14)))]) .ret)
theorem dg21:Dg Tryz.prog 21 Tryz.f21 ic21 [(.cell 2 4 true)]:=⟨Tryz.func21,by kernel_rfl,by kernel_rfl⟩
theorem c21 {X:List (E×E)} (w:M.World) (hw:WX X w):FnP Tryz.prog G 21 0 [] [.agg [.sl 10 (w.convs.map Conv.row),.sl 3 (w.door.map.map Pair.row),.sl 8 (w.door.flows.map Flw.row),.sl 7 (w.nets.map Pk.row)]] (q8j w):=by
 refine mP dg21 Tryz.ntmps21 ⟨_,_,rfl,rfl⟩ ?_
 have hnl:=hw.nl
 have hcl:=hw.cl
 have hfl:=hw.flows4
 obtain⟨hdm,hdf,_⟩:=q0c.1 hw.door
 have hml:=(q0b hdm).2
 simp only[ic21,go_sem]
 with_reducible repeat' (first|refine br ?_ ?_<;>intro h e<;>(try simp only[e,go_sem])<;>clear e|rw[q00 (by omega)]|refine sd ?_<;>try simp only[go_sem]|fail)
 refine q14 (c49 (w.door.map.map Pair.row) w.door.flows (by simp;omega) (by omega) (qmv hw.door)) [] 9 2 (by simp only[go_sem];first|done|simp) (by simp) (by rintro _ _ ⟨rfl,rfl⟩;simp) (by intro i hi;rcases(show i=0∨i=1 by omega) with rfl|rfl<;>simp only[go_sem]) ?_
 rintro _ _ ⟨rfl,rfl⟩
 simp only[go_sem]
 with_reducible repeat' (first|refine br ?_ ?_<;>intro h e<;>(try simp only[e,go_sem])<;>clear e|rw[q00 (by omega)]|refine sd ?_<;>try simp only[go_sem]|fail)
 exact q1d (d:=2) (c:=3000002) 3000006 100900 100901 3000013 (by simp only[go_sem]) (by simp only[go_sem];first|done|simp) (by simp only[go_sem];first|done|simp) (by simp only[go_sem]) (by simp only[go_sem]) (by simp only[go_sem];first|done|simp) (by decide)
theorem q6j (w:M.World) (e:Ev):(q0v w=true→q3l w e=wDo w e)∧(q0v w=false→q3l w e=.zero):=by
 unfold q3l
 exact⟨λh=>by rw[if_pos h],λh=>by rw[if_neg (by rw[h];decide)]⟩
def ic13:IC:=sR [oP 2 (.box 38 (.t 0)),oP 3 (.box 56 (.t 1)),oP 4 (.alloc 38 [.nils,.nils,.nils,.nils])] (.seq (sR [lA 5 4 2,oP 6 (.call 19 [.t 5]),oP 7 (.un .not (.t 6))] (cD 7 (sR [oP 8 (.build [.nils,.nils,.nils,.nils] []),nP (.sto 4 (.t 4) (.t 8))] .ret) .skip)) (.seq (.drw [0,1,0,7,15] [(0,lA 9 4 2),(1,oP 10 (.call 21 [.t 9])),(2,lA 11 11 3),(3,oP 12 (.call 40 [.t 10,.t 11])),(4,nP (.sto 4 (.t 4) (.t 12)))]) .ret))
theorem dg13:Dg Tryz.prog 13 Tryz.f13 ic13 [(.cell 4 4 true)]:=⟨Tryz.func13,by kernel_rfl,by kernel_rfl⟩
theorem r13 (w:M.World) (e:Ev) (hs:WS w) (hq:q0v w=true→∃X,WX X w) (ht:e.pkt.text.length≤2000000):FnR Tryz.prog G 13 [.agg [.sl 10 (w.convs.map Conv.row),.sl 3 (w.door.map.map Pair.row),.sl 8 (w.door.flows.map Flw.row),.sl 7 (w.nets.map Pk.row)],.agg [.int .i64 e.kind,.int .i64 e.a,.int .i64 e.b,.int .i64 e.c,.int .i64 e.pkt.kind,.int .i64 e.pkt.frm.a,.int .i64 e.pkt.frm.p,.int .i64 e.pkt.to.a,.int .i64 e.pkt.to.p,.int .i64 e.pkt.at_,.str e.pkt.text]] (.agg [.sl 10 ((q3l w e).convs.map Conv.row),.sl 3 ((q3l w e).door.map.map Pair.row),.sl 8 ((q3l w e).door.flows.map Flw.row),.sl 7 ((q3l w e).nets.map Pk.row)]):=by
 refine mF dg13 Tryz.ntmps13 ?_
 have f1:=c19 w hs
 have hw:=q6j w e
 cases hok:q0v w with
 | false =>
   rw[hok] at f1
   rw[hw.2 hok]
   simp only[ic13,go_sem,q2l,List.map_nil]
   with_reducible repeat' (first|refine br ?_ ?_<;>intro h e<;>(try simp only[e,go_sem])<;>clear e|rw[q00 (by omega)]|refine sd ?_<;>try simp only[go_sem]|(first|refine cr (f1 ..) ?_)<;>try simp only[go_sem]|fail)
 | true =>
   obtain⟨X,hx⟩:=hq hok
   rw[hok] at f1
   rw[hw.1 hok]
   simp only[ic13,go_sem]
   with_reducible repeat' (first|refine br ?_ ?_<;>intro h e<;>(try simp only[e,go_sem])<;>clear e|rw[q00 (by omega)]|refine sd ?_<;>try simp only[go_sem]|(first|refine cr (f1 ..) ?_)<;>try simp only[go_sem]|fail)
   refine q14 (c21 w hx) [] 10 4 (by simp only[go_sem];first|done|simp) (by simp) (by rintro _ _ ⟨rfl,rfl⟩;simp) (by intro i hi;rcases(show i=0∨i=1∨i=2∨i=3 by omega) with rfl|rfl|rfl|rfl<;>simp only[go_sem]) ?_
   rintro _ _ ⟨rfl,rfl⟩
   simp only[go_sem]
   with_reducible repeat' (first|refine br ?_ ?_<;>intro h e<;>(try simp only[e,go_sem])<;>clear e|rw[q00 (by omega)]|refine sd ?_<;>try simp only[go_sem]|fail)
   refine q1z (x40 w e hx ht) [101000,101001,101002,101003] [] 12 4 (by simp only[go_sem];first|done|simp) (by simp only[go_sem];first|done|simp) (by simp) (by simp) (by rintro _ _ ⟨rfl,rfl⟩;simp) (by intro i hi;rcases(show i=0∨i=1∨i=2∨i=3 by omega) with rfl|rfl|rfl|rfl<;>simp only[go_sem]) ?_
   rintro _ _ ⟨rfl,rfl⟩
   simp only[go_sem]
   with_reducible repeat' (first|refine br ?_ ?_<;>intro h e<;>(try simp only[e,go_sem])<;>clear e|rw[q00 (by omega)]|refine sd ?_<;>try simp only[go_sem]|fail)
def ic50:IC:=sR [oP 3 (.box 38 (.t 0)),oP 4 (.box 54 (.t 1)),oP 6 (.alloc 38 [.nils,.nils,.nils,.nils])] (.seq (sR [oP 7 (.mv (.c i0))] (.block 0 (.loop (.seq (sR [mV 8 2,mV 9 8,gT 10 9 (.mv (.t 7)),gT 11 9 (.bin .lss (.t 10) (cI 4)),pF 12 9 11] (cD 12 .skip (.exit 0))) (.seq (.block 1 (.reg [lA 16 4 3,lA 17 7 4,oP 18 (.call 97 [.t 16,.t 17]),mV 15 18,eX 19 15 0,eX 20 15 1,eX 21 15 2,nP (.sto 4 (.t 3) (.t 19)),nP (.sto 7 (.t 4) (.t 20)),mV 2 21])) (.reg [mV 13 7,oP 14 (.bin .add (.t 13) (cI 1)),mV 7 14])))))) (sR [lA 22 4 3,nP (.sto 4 (.t 6) (.t 22))] .ret))
theorem dg50:Dg Tryz.prog 50 Tryz.f50 ic50 [(.cell 6 4 true)]:=⟨Tryz.func50,by kernel_rfl,by kernel_rfl⟩
theorem x50 {X:List (E×E)} (w:M.World) (p:Pk) (ok:Bool) (hw:WX X w) (hp:ok=true→NetX X w.convs p):FnP Tryz.prog G 50 0 [.arr 91 10 (w.convs.map Conv.row),.arr 132 3 (w.door.map.map Pair.row),.arr 130 8 (w.door.flows.map Flw.row),.arr 54 7 (w.nets.map Pk.row)] [.agg [.own 0 w.convs.length,.own 1 w.door.map.length,.own 2 w.door.flows.length,.own 3 w.nets.length],.agg [.int .i64 p.kind,.int .i64 p.frm.a,.int .i64 p.frm.p,.int .i64 p.to.a,.int .i64 p.to.p,.int .i64 p.at_,.str p.text],.bool ok] (q8j (through 4 w (bif ok then some p else none))):=by
 refine mP dg50 Tryz.ntmps50 ⟨_,_,rfl,rfl⟩ ?_
 simp only[ic50,go_sem]
 with_reducible repeat' (first|refine br ?_ ?_<;>intro h e<;>(try simp only[e,go_sem])<;>clear e|rw[q00 (by omega)]|refine sd ?_<;>try simp only[go_sem]|fail)
 refine q0d (λa:Nat×M.World×Pk×Bool=>⟨q0e [(2,.bool a.2.2.2),(3,.pv 3000003 0),(4,.pv 3000004 0),(6,.pv 3000006 0),(7,.int .i64 (a.1:Int))],q01 [(3000003,.var 38 [.own 0 a.2.1.convs.length,.own 1 a.2.1.door.map.length,.own 2 a.2.1.door.flows.length,.own 3 a.2.1.nets.length]),(3000004,.var 54 (Pk.row a.2.2.1)),(3000006,.var 38 [.nils,.nils,.nils,.nils]),(0,.arr 91 10 (a.2.1.convs.map Conv.row)),(1,.arr 132 3 (a.2.1.door.map.map Pair.row)),(2,.arr 130 8 (a.2.1.door.flows.map Flw.row)),(3,.arr 54 7 (a.2.1.nets.map Pk.row))]⟩)
  (λa=>4 - a.1) (λa=>a.1≤4∧WX X a.2.1∧(a.2.2.2=true→NetX X a.2.1.convs a.2.2.1)∧through 4 w (bif ok then some p else none)=through (4 - a.1) a.2.1 (bif a.2.2.2 then some a.2.2.1 else none)) (0,w,p,ok) (leQ []) ⟨Nat.zero_le _,hw,hp,rfl⟩ ?_
 intro⟨n,v,q,b⟩ ⟨hn,hv,hq,he⟩
 simp only at hn hv hq he
 simp only[go_sem]
 cases b
 ·simp only[go_sem]
  rw[cond_false,q79] at he
  rw[he]
  with_reducible repeat' (first|refine br ?_ ?_<;>intro h e<;>(try simp only[e,go_sem])<;>clear e|rw[q00 (by omega)]|refine sd ?_<;>try simp only[go_sem]|fail)
  exact q1d (d:=6) (c:=3000006) 0 1 2 3 (by simp only[go_sem]) (by simp only[go_sem]) (by simp only[go_sem]) (by simp only[go_sem]) (by simp only[go_sem]) (by simp only[go_sem]) (by decide)
 by_cases h:(n:Int)<4
 ·have hq:=hq rfl
  obtain⟨k1,k2⟩:=q6w hv hq
  have e4:4 - n=(4 - (n+1))+1:=by omega
  rw[cond_true,e4] at he
  simp only[through] at he
  simp only[eq_true h,go_sem]
  with_reducible repeat' (first|refine br ?_ ?_<;>intro h e<;>(try simp only[e,go_sem])<;>clear e|rw[q00 (by omega)]|refine sd ?_<;>try simp only[go_sem]|fail)
  refine q1z (x97 v q hv hq.pk) [0,1,2,3] [] 18 4 (by simp only[go_sem];first|done|simp) (by simp only[go_sem];first|done|simp) (by simp) (by simp) (by rintro _ _ ⟨rfl,rfl⟩;simp) (by intro i hi;rcases(show i=0∨i=1∨i=2∨i=3 by omega) with rfl|rfl|rfl|rfl<;>simp only[go_sem]) ?_
  rintro _ _ ⟨rfl,rfl⟩
  generalize q2g v q=x at *
  obtain⟨v',o⟩:=x
  simp only at k1 k2 he
  simp only[go_sem]
  with_reducible repeat' (first|rw[q00 (by omega)];try simp only[go_sem]|refine br ?_ ?_<;>intro h e<;>(try simp only[e,go_sem])<;>clear e|refine sd ?_<;>try simp only[go_sem]|fail)
  exact⟨(n+1,v',o.getD .zero,o.isSome),by simp only;omega,⟨by simp only;omega,k1,λhb=>k2 _ (by cases o with|none=>cases hb|some y=>rfl),by simp only;rw[qg9];exact he⟩,(leQ [(0,101800),(1,101801),(2,101802),(3,101803)])⟩
 ·simp only[eq_false h,go_sem]
  have e0:4 - n=0:=by omega
  rw[e0,cond_true,show through 0 v (some q)=v from rfl] at he
  rw[he]
  with_reducible repeat' (first|refine br ?_ ?_<;>intro h e<;>(try simp only[e,go_sem])<;>clear e|rw[q00 (by omega)]|refine sd ?_<;>try simp only[go_sem]|fail)
  exact q1d (d:=6) (c:=3000006) 0 1 2 3 (by simp only[go_sem]) (by simp only[go_sem]) (by simp only[go_sem]) (by simp only[go_sem]) (by simp only[go_sem]) (by simp only[go_sem]) (by decide)
theorem qnj (w:M.World) {i:Nat} {c:Conv} (h:w.convs[i]?=some c):q7l w true i c.upAck 24=say c true 0 c.upAck 24∧q7l w false i c.downAck 24=say c false (portOf w.door.map c.ins) c.downAck 24:=by
 have hl:=(List.getElem?_eq_some_iff.1 h).1
 have hwi:q0j (i:Int) 0 ((w.convs.length:Int) - 1)=true:=M.within_iff.2 (by omega)
 unfold q7l
 simp only[hwi,Int.toNat_natCast,h]
 simp
def ic22:IC:=sR [oP 1 (.box 38 (.t 0)),oP 2 (.alloc 38 [.nils,.nils,.nils,.nils])] (sR [fD 10 3 1,lD 11 1 10,mV 3 11] (sR [oP 12 (.bsl 54 7 []),fD 13 3 1,nP (.sto 1 (.t 13) (.t 12))] (.seq (sR [oP 4 (.mv (.c i0))] (.block 0 (.loop (.seq (sR [mV 14 4,mV 15 3,oP 16 (.len (.t 15)),bN 17 .lss 14 16] (cD 17 .skip (.exit 0))) (.seq (.block 1 (.drw [0,0,0,6,14,31,63] [(0,lA 20 4 1),(1,mV 21 3),(2,mV 22 4),(3,oP 23 (.iad 7 (.t 21) (.t 22))),(4,lA 24 7 23),(5,oP 25 (.call 50 [.t 20,.t 24,cT])),(6,nP (.sto 4 (.t 1) (.t 25)))])) (.reg [mV 18 4,oP 19 (.bin .add (.t 18) (cI 1)),mV 4 19])))))) (.seq (sR [oP 5 (.mv (.c i0))] (.block 2 (.loop (.seq (sR [mV 26 5,fD 27 0 1,lD 28 1 27,oP 29 (.len (.t 28)),bN 30 .lss 26 29] (cD 30 .skip (.exit 2))) (.seq (.block 3 (.seq (.drw [0,0,0,4,0,28,60,124,254,511,1023,2047,2047,0,12287,32767] [(0,lA 34 4 1),(1,mV 35 5),(2,fD 36 0 1),(3,lD 37 1 36),(4,mV 38 5),(5,oP 39 (.iad 10 (.t 37) (.t 38))),(6,fD 40 6 39),(7,lD 41 1 40),(8,oP 42 (.build [i0,i0,i0,i0,i0,i0,i0,i0,i0,i0,s0] [(0,(1,cI 1)),(1,(1,.t 35)),(2,(1,.t 41)),(3,(1,cI 24))])),(9,oP 43 (.call 51 [.t 34,.t 42])),(10,mV 33 43),(11,eX 44 33 0),(12,eX 45 33 1),(13,oP 6 (.alloc 54 [i0,i0,i0,i0,i0,i0,s0])),(14,nP (.sto 7 (.t 6) (.t 44))),(15,mV 7 45)]) (sR [lA 46 4 1,lA 47 7 6,mV 48 7,oP 49 (.call 50 [.t 46,.t 47,.t 48]),nP (.sto 4 (.t 1) (.t 49))] (.seq (.drw [0,0,0,4,0,28,60,124,254,511,1023,2047,2047,0,12287,32767] [(0,lA 51 4 1),(1,mV 52 5),(2,fD 53 0 1),(3,lD 54 1 53),(4,mV 55 5),(5,oP 56 (.iad 10 (.t 54) (.t 55))),(6,fD 57 7 56),(7,lD 58 1 57),(8,oP 59 (.build [i0,i0,i0,i0,i0,i0,i0,i0,i0,i0,s0] [(0,(1,cI 2)),(1,(1,.t 52)),(2,(1,.t 58)),(3,(1,cI 24))])),(9,oP 60 (.call 51 [.t 51,.t 59])),(10,mV 50 60),(11,eX 61 50 0),(12,eX 62 50 1),(13,oP 8 (.alloc 54 [i0,i0,i0,i0,i0,i0,s0])),(14,nP (.sto 7 (.t 8) (.t 61))),(15,mV 9 62)]) (.reg [lA 63 4 1,lA 64 7 8,mV 65 9,oP 66 (.call 50 [.t 63,.t 64,.t 65]),nP (.sto 4 (.t 1) (.t 66))]))))) (.reg [mV 31 5,oP 32 (.bin .add (.t 31) (cI 1)),mV 5 32])))))) (sR [lA 67 4 1,nP (.sto 4 (.t 2) (.t 67))] .ret)))))
theorem dg22:Dg Tryz.prog 22 Tryz.f22 ic22 [(.cell 2 4 true)]:=⟨Tryz.func22,by kernel_rfl,by kernel_rfl⟩
set_option maxHeartbeats 1000000 in
theorem x22 {X:List (E×E)} (w:M.World) (hw:WX X w):FnP Tryz.prog G 22 0 [.arr 91 10 (w.convs.map Conv.row),.arr 132 3 (w.door.map.map Pair.row),.arr 130 8 (w.door.flows.map Flw.row),.arr 54 7 (w.nets.map Pk.row)] [.agg [.own 0 w.convs.length,.own 1 w.door.map.length,.own 2 w.door.flows.length,.own 3 w.nets.length]] (q8j (M.round w)):=by
 refine mP dg22 Tryz.ntmps22 ⟨_,_,rfl,rfl⟩ ?_
 have hnl:=hw.nl
 have hcl:=hw.cl
 simp only[ic22,go_sem]
 with_reducible repeat' (first|refine br ?_ ?_<;>intro h e<;>(try simp only[e,go_sem])<;>clear e|rw[q00 (by omega)]|refine sd ?_<;>try simp only[go_sem]|fail)
 refine q0d (λa:Nat×M.World=>⟨q0e [(1,.pv 3000001 0),(2,.pv 3000002 0),(3,.own 3 w.nets.length),(4,.int .i64 (a.1:Int))],q01 [(3000001,.var 38 [.own 0 a.2.convs.length,.own 1 a.2.door.map.length,.own 2 a.2.door.flows.length,.own 3000012 a.2.nets.length]),(3000002,.var 38 [.nils,.nils,.nils,.nils]),(0,.arr 91 10 (a.2.convs.map Conv.row)),(1,.arr 132 3 (a.2.door.map.map Pair.row)),(2,.arr 130 8 (a.2.door.flows.map Flw.row)),(3000012,.arr 54 7 (a.2.nets.map Pk.row)),(3,.arr 54 7 (w.nets.map Pk.row))]⟩)
  (λa=>w.nets.length - a.1) (λa=>a.1≤w.nets.length∧WX X a.2∧Ext w a.2∧w.nets.foldl (λw p=>through 4 w (some p)) { w with nets:=[] }=(w.nets.drop a.1).foldl (λw p=>through 4 w (some p)) a.2) (0,{ w with nets:=[] }) (leQ []) ⟨Nat.zero_le _,hw.empty,.same rfl rfl,by simp⟩ ?_
 intro⟨k,v⟩ ⟨hk,hv,hx,he⟩
 simp only at hk hv hx he
 simp only[go_sem]
 by_cases h:(k:Int)<w.nets.length
 ·have hil:k<w.nets.length:=by omega
  have hg:w.nets.getD k default=w.nets[k]:=by simp[List.getD,hil]
  rw[List.drop_eq_getElem_cons hil,List.foldl_cons] at he
  have hnp:=(hw.net _ (List.getElem_mem hil)).ext hx
  generalize w.nets[k]=p at *
  simp only[eq_true h,go_sem]
  with_reducible repeat' (first|refine br ?_ ?_<;>intro h e<;>(try simp only[e,go_sem,q03 hil,hg])<;>clear e|rw[q00 (by omega)]|refine sd ?_<;>try simp only[go_sem,q03 hil,hg]|fail)
  refine q1z (x50 v p true hv (λ_=>hnp)) [0,1,2,3000012] [] 25 4 (by simp only[go_sem];first|done|simp) (by simp only[go_sem];first|done|simp) (by simp) (by simp) (by rintro _ _ ⟨rfl,rfl⟩;simp) (by intro i hi;rcases(show i=0∨i=1∨i=2∨i=3 by omega) with rfl|rfl|rfl|rfl<;>simp only[go_sem]) ?_
  rintro _ _ ⟨rfl,rfl⟩
  rw[cond_true]
  simp only[go_sem]
  have hv':WX X (through 4 v (some p)):=hv.through 4 (λq hq=>by cases hq;exact hnp)
  have hx':=hx.trans (q1v 4 v (some p))
  generalize through 4 v (some p)=v' at *
  with_reducible repeat' (first|rw[q00 (by omega)];try simp only[go_sem]|refine br ?_ ?_<;>intro h e<;>(try simp only[e,go_sem])<;>clear e|refine sd ?_<;>try simp only[go_sem]|fail)
  exact⟨(k+1,v'),by simp only;omega,⟨by simp only;omega,hv',hx',he⟩,(leQ [(0,102500),(1,102501),(2,102502),(3000012,102503)])⟩
 simp only[eq_false h,go_sem]
 obtain rfl:k=w.nets.length:=by omega
 rw[List.drop_length,List.foldl_nil] at he
 have hrd:M.round w=(List.range v.convs.length).foldl sayRound v:=by rw[←he];rfl
 clear he hx h
 with_reducible repeat' (first|refine br ?_ ?_<;>intro h e<;>(try simp only[e,go_sem])<;>clear e|rw[q00 (by omega)]|refine sd ?_<;>try simp only[go_sem]|fail)
 have hvl:=hv.cl
 generalize hn:v.convs.length=n at *
 refine q0d (λa:Nat×M.World=>⟨q0e [(1,.pv 3000001 0),(2,.pv 3000002 0),(5,.int .i64 (a.1:Int))],q01 [(3000001,.var 38 [.own 0 a.2.convs.length,.own 1 a.2.door.map.length,.own 2 a.2.door.flows.length,.own 3000012 a.2.nets.length]),(3000002,.var 38 [.nils,.nils,.nils,.nils]),(0,.arr 91 10 (a.2.convs.map Conv.row)),(1,.arr 132 3 (a.2.door.map.map Pair.row)),(2,.arr 130 8 (a.2.door.flows.map Flw.row)),(3000012,.arr 54 7 (a.2.nets.map Pk.row))]⟩)
  (λa=>n - a.1) (λa=>a.1≤n∧WX X a.2∧a.2.convs.length=n∧M.round w=((List.range n).drop a.1).foldl sayRound a.2) (0,v) (by rw[←hn];exact(leQ [])) ⟨Nat.zero_le _,hv,hn,by simpa using hrd⟩ ?_
 clear hrd hv hn v
 intro⟨k,v⟩ ⟨hk,hv,hn,he⟩
 simp only at hk hv hn he
 simp only[go_sem]
 by_cases h:(k:Int)<v.convs.length
 ·have hil:k<v.convs.length:=by omega
  have hg:v.convs.getD k default=v.convs[k]:=by simp[List.getD,hil]
  have hg2:=zE hil
  have hB:∀(u:M.World),WX X u→∀c∈u.convs,c.up.length≤2000000∧c.down.length≤2000000:=λu hu c hc=>by
   have hb:=q26 (hu.cv c hc)
   have h1:=hb.up
   have h2:=hb.down
   omega
  have hM:∀(u:M.World),WX X u→u.door.map.length≤2000000:=λu hu=>by have:=(q0b (q0c.1 hu.door).1).2;omega
  have hcm:=List.getElem_mem hil
  rw[qeh (by omega),List.foldl_cons] at he
  generalize v.convs[k]=c at *
  have fs:=c51 v ⟨1,k,c.upAck,24,.zero⟩ (hM v hv) (by omega) (hB v hv)
  have hsn:∀p,say c true 0 c.upAck 24=some p→NetX X v.convs p:=λp hp=>(q65 hcm (hv.cv c hcm) hp).x
  rw[show decide ((1:Int)=1)=true from rfl,(qnj v hg2).1] at fs
  generalize ho:say c true 0 c.upAck 24=o at *
  obtain⟨pfs,hpfs⟩:∃pfs,pfs=o.getD .zero:=⟨_,rfl⟩
  rw[←hpfs] at fs
  simp only[Pk.zero,E.zero] at fs
  simp only[eq_true h,go_sem]
  with_reducible repeat' (first|refine br ?_ ?_<;>intro h e<;>(try simp only[e,go_sem,q03 hil,hg])<;>clear e|rw[q00 (by omega)]|refine sd ?_<;>try simp only[go_sem,q03 hil,hg]|fail)
  refine q34 fs [0,1,2,3000012] false (by simp only[go_sem];first|done|simp[E.row,Pc.row,Pair.row,Part.row,Flw.row,Pk.row,Conv.row]) (by simp only[List.mem_cons,List.not_mem_nil,or_false];rintro c (rfl|rfl|rfl|rfl)<;>simp only[go_sem]) rfl (.inr rfl) ?_
  simp only[go_sem]
  with_reducible repeat' (first|refine br ?_ ?_<;>intro h e<;>(try simp only[e,go_sem])<;>clear e|rw[q00 (by omega)]|refine sd ?_<;>try simp only[go_sem]|fail)
  refine q1z (x50 v pfs o.isSome hv (λhb=>hsn _ (by rw[hpfs];cases o with|none=>cases hb|some y=>rfl))) [0,1,2,3000012] [] 49 4 (by simp only[go_sem];first|done|simp) (by simp only[go_sem];first|done|simp) (by simp) (by simp) (by rintro _ _ ⟨rfl,rfl⟩;simp) (by intro i hi;rcases(show i=0∨i=1∨i=2∨i=3 by omega) with rfl|rfl|rfl|rfl<;>simp only[go_sem]) ?_
  rw[hpfs,qg9]
  rintro _ _ ⟨rfl,rfl⟩
  simp only[go_sem]
  obtain⟨v1,hv1⟩:∃v1,v1=through 4 v o:=⟨_,rfl⟩
  rw[←hv1]
  have hw1:WX X v1:=by rw[hv1];exact hv.through 4 hsn
  have hx1:Ext v v1:=by rw[hv1];exact q1v 4 _ _
  have hil1:k<v1.convs.length:=by rw[hx1.len];exact hil
  have hg1:v1.convs.getD k default=v1.convs[k]:=by simp[List.getD,hil1]
  have hg3:=zE hil1
  have hcm1:=List.getElem_mem hil1
  have hcl1:=hw1.cl
  generalize v1.convs[k]=c1 at *
  have fs1:=c51 v1 ⟨2,k,c1.downAck,24,.zero⟩ (hM v1 hw1) (by omega) (hB v1 hw1)
  have hsn1:∀p,say c1 false (portOf v1.door.map c1.ins) c1.downAck 24=some p→NetX X v1.convs p:=λp hp=>(q65 hcm1 (hw1.cv c1 hcm1) hp).x
  rw[show decide ((2:Int)=1)=false from rfl,(qnj v1 hg3).2] at fs1
  generalize ho1:say c1 false (portOf v1.door.map c1.ins) c1.downAck 24=o1 at *
  have hse:=q97 hg2 ho hv1 hg3 ho1
  obtain⟨pfs1,hpfs1⟩:∃pfs1,pfs1=o1.getD .zero:=⟨_,rfl⟩
  rw[←hpfs1] at fs1
  simp only[Pk.zero,E.zero] at fs1
  with_reducible repeat' (first|refine br ?_ ?_<;>intro h e<;>(try simp only[e,go_sem,q03 hil1,hg1])<;>clear e|rw[q00 (by omega)]|refine sd ?_<;>try simp only[go_sem,q03 hil1,hg1]|fail)
  refine q34 fs1 [104900,104901,104902,104903] false (by simp only[go_sem];first|done|simp[E.row,Pc.row,Pair.row,Part.row,Flw.row,Pk.row,Conv.row]) (by simp only[List.mem_cons,List.not_mem_nil,or_false];rintro c (rfl|rfl|rfl|rfl)<;>simp only[go_sem]) rfl (.inr rfl) ?_
  simp only[go_sem]
  with_reducible repeat' (first|refine br ?_ ?_<;>intro h e<;>(try simp only[e,go_sem])<;>clear e|rw[q00 (by omega)]|refine sd ?_<;>try simp only[go_sem]|fail)
  refine q1z (x50 v1 pfs1 o1.isSome hw1 (λhb=>hsn1 _ (by rw[hpfs1];cases o1 with|none=>cases hb|some y=>rfl))) [104900,104901,104902,104903] [] 66 4 (by simp only[go_sem];first|done|simp) (by simp only[go_sem];first|done|simp) (by simp) (by simp) (by rintro _ _ ⟨rfl,rfl⟩;simp) (by intro i hi;rcases(show i=0∨i=1∨i=2∨i=3 by omega) with rfl|rfl|rfl|rfl<;>simp only[go_sem]) ?_
  rw[hpfs1,qg9]
  rintro _ _ ⟨rfl,rfl⟩
  simp only[go_sem]
  rw[hse] at he
  have hw2:WX X (through 4 v1 o1):=hw1.through 4 hsn1
  have hl2:=(q1v 4 v1 o1).len
  generalize through 4 v1 o1=v2 at *
  with_reducible repeat' (first|rw[q00 (by omega)];try simp only[go_sem]|refine br ?_ ?_<;>intro h e<;>(try simp only[e,go_sem])<;>clear e|refine sd ?_<;>try simp only[go_sem]|fail)
  exact⟨(k+1,v2),by simp only;omega,⟨by simp only;omega,hw2,by simp only;rw[hl2,hx1.len,hn],he⟩,(leQ [(0,106600),(1,106601),(2,106602),(3000012,106603)])⟩
 ·simp only[eq_false h,go_sem]
  obtain rfl:k=n:=by omega
  rw[show(List.range k).drop k=[] by simp,List.foldl_nil] at he
  rw[he]
  with_reducible repeat' (first|refine br ?_ ?_<;>intro h e<;>(try simp only[e,go_sem])<;>clear e|rw[q00 (by omega)]|refine sd ?_<;>try simp only[go_sem]|fail)
  exact q1d (d:=2) (c:=3000002) 0 1 2 3000012 (by simp only[go_sem]) (by simp only[go_sem]) (by simp only[go_sem]) (by simp only[go_sem]) (by simp only[go_sem]) (by simp only[go_sem]) (by decide)
theorem q4g (w:M.World) (n:Int):(q0v w=true→∀k:Nat,n=k→k≤6→q1u w n=rounds k w)∧((q0v w&&q0j n 0 6)=false→q1u w n=.zero):=by
 unfold q1u
 refine⟨λh k hk h6=>?_,λh=>by rw[if_neg (by rw[h];decide)]⟩
 subst hk
 rw[if_pos (by rw[h,M.within_iff.2 (by omega)];rfl),Int.toNat_natCast]
def ic6:IC:=sR [oP 2 (.box 38 (.t 0)),oP 4 (.alloc 38 [.nils,.nils,.nils,.nils])] (.seq (sR [lA 7 4 2,oP 8 (.call 19 [.t 7]),oP 9 (.un .not (.t 8)),mV 10 9,gF 11 10 (.mv (.t 1)),gF 12 10 (.call 20 [.t 11,.c i0,cI 6]),gF 13 10 (.un .not (.t 12)),pT 14 10 13] (cD 14 (sR [oP 15 (.build [.nils,.nils,.nils,.nils] []),nP (.sto 4 (.t 4) (.t 15))] .ret) .skip)) (sR [lA 16 4 2,oP 17 (.call 21 [.t 16]),oP 5 (.alloc 38 [.nils,.nils,.nils,.nils]),nP (.sto 4 (.t 5) (.t 17))] (.seq (sR [oP 6 (.mv (.c i0))] (.block 0 (.loop (.seq (sR [mV 18 6,mV 19 1,bN 20 .lss 18 19] (cD 20 .skip (.exit 0))) (.seq (.block 1 (.reg [lA 23 4 5,oP 24 (.call 22 [.t 23]),nP (.sto 4 (.t 5) (.t 24))])) (.reg [mV 21 6,oP 22 (.bin .add (.t 21) (cI 1)),mV 6 22])))))) (sR [lA 25 4 5,nP (.sto 4 (.t 4) (.t 25))] .ret))))
theorem dg6:Dg Tryz.prog 6 Tryz.f6 ic6 [(.cell 4 4 true)]:=⟨Tryz.func6,by kernel_rfl,by kernel_rfl⟩
theorem r6 (w:M.World) (n:Int) (hs:WS w) (hq:q0v w=true→∃X,WX X w):FnR Tryz.prog G 6 [.agg [.sl 10 (w.convs.map Conv.row),.sl 3 (w.door.map.map Pair.row),.sl 8 (w.door.flows.map Flw.row),.sl 7 (w.nets.map Pk.row)],.int .i64 n] (.agg [.sl 10 ((q1u w n).convs.map Conv.row),.sl 3 ((q1u w n).door.map.map Pair.row),.sl 8 ((q1u w n).door.flows.map Flw.row),.sl 7 ((q1u w n).nets.map Pk.row)]):=by
 refine mF dg6 Tryz.ntmps6 ?_
 have f1:=c19 w hs
 have f2:=c20 n 0 6
 have hw:=q4g w n
 cases hok:q0v w with
 | false =>
   rw[hok] at f1 hw
   rw[hw.2 (Bool.false_and _)]
   simp only[ic6,go_sem,q2l,List.map_nil]
   with_reducible repeat' (first|refine br ?_ ?_<;>intro h e<;>(try simp only[e,go_sem])<;>clear e|rw[q00 (by omega)]|refine sd ?_<;>try simp only[go_sem]|(first|refine cr (f1 ..) ?_)<;>try simp only[go_sem]|fail)
 | true =>
   rw[hok] at f1 hw
   cases hwi:q0j n 0 6 with
   | false =>
     rw[hwi] at f2 hw
     rw[hw.2 rfl]
     simp only[ic6,go_sem,q2l,List.map_nil]
     with_reducible repeat' (first|refine br ?_ ?_<;>intro h e<;>(try simp only[e,go_sem])<;>clear e|rw[q00 (by omega)]|refine sd ?_<;>try simp only[go_sem]|(first|refine cr (f1 ..) ?_|refine cr (f2 ..) ?_)<;>try simp only[go_sem]|fail)
   | true =>
     rw[hwi] at f2
     have hn:=M.within_iff.1 hwi
     obtain⟨m,rfl⟩:∃m:Nat,n=m:=⟨n.toNat,by omega⟩
     rw[hw.1 rfl m rfl (by omega)]
     clear hw
     obtain⟨X,hx⟩:=hq hok
     simp only[ic6,go_sem]
     with_reducible repeat' (first|refine br ?_ ?_<;>intro h e<;>(try simp only[e,go_sem])<;>clear e|rw[q00 (by omega)]|refine sd ?_<;>try simp only[go_sem]|(first|refine cr (f1 ..) ?_|refine cr (f2 ..) ?_)<;>try simp only[go_sem]|fail)
     refine q14 (c21 w hx) [] 17 4 (by simp only[go_sem];first|done|simp) (by simp) (by rintro _ _ ⟨rfl,rfl⟩;simp) (by intro i hi;rcases(show i=0∨i=1∨i=2∨i=3 by omega) with rfl|rfl|rfl|rfl<;>simp only[go_sem]) ?_
     rintro _ _ ⟨rfl,rfl⟩
     simp only[go_sem]
     with_reducible repeat' (first|refine br ?_ ?_<;>intro h e<;>(try simp only[e,go_sem])<;>clear e|rw[q00 (by omega)]|refine sd ?_<;>try simp only[go_sem]|fail)
     refine q0d (λa:Nat×M.World=>⟨q0e [(1,.int .i64 (m:Int)),(4,.pv 3000004 0),(5,.pv 3000005 0),(6,.int .i64 (a.1:Int))],q01 [(3000004,.var 38 [.nils,.nils,.nils,.nils]),(3000005,.var 38 [.own 101700 a.2.convs.length,.own 101701 a.2.door.map.length,.own 101702 a.2.door.flows.length,.own 101703 a.2.nets.length]),(101700,.arr 91 10 (a.2.convs.map Conv.row)),(101701,.arr 132 3 (a.2.door.map.map Pair.row)),(101702,.arr 130 8 (a.2.door.flows.map Flw.row)),(101703,.arr 54 7 (a.2.nets.map Pk.row))]⟩)
      (λa=>m - a.1) (λa=>a.1≤m∧WX X a.2∧rounds m w=rounds (m - a.1) a.2) (0,w) (leQ []) ⟨Nat.zero_le _,hx,rfl⟩ ?_
     intro⟨k,v⟩ ⟨hk,hv,he⟩
     simp only at hk hv he
     simp only[go_sem]
     by_cases h:(k:Int)<m
     ·rw[show m - k=(m - (k+1))+1 by omega] at he
      simp only[eq_true h,go_sem]
      with_reducible repeat' (first|refine br ?_ ?_<;>intro h e<;>(try simp only[e,go_sem])<;>clear e|rw[q00 (by omega)]|refine sd ?_<;>try simp only[go_sem]|fail)
      refine q1z (x22 v hv) [101700,101701,101702,101703] [] 24 4 (by simp only[go_sem];first|done|simp) (by simp only[go_sem];first|done|simp) (by simp) (by simp) (by rintro _ _ ⟨rfl,rfl⟩;simp) (by intro i hi;rcases(show i=0∨i=1∨i=2∨i=3 by omega) with rfl|rfl|rfl|rfl<;>simp only[go_sem]) ?_
      rintro _ _ ⟨rfl,rfl⟩
      simp only[go_sem]
      have hv2:=hv.round
      rw[show rounds (m - (k+1)+1) v=rounds (m - (k+1)) (M.round v) from rfl] at he
      generalize M.round v=v2 at *
      with_reducible repeat' (first|rw[q00 (by omega)];try simp only[go_sem]|refine br ?_ ?_<;>intro h e<;>(try simp only[e,go_sem])<;>clear e|refine sd ?_<;>try simp only[go_sem]|fail)
      exact⟨(k+1,v2),by simp only;omega,⟨by simp only;omega,hv2,he⟩,(leQ [(101700,102400),(101701,102401),(101702,102402),(101703,102403)])⟩
     ·simp only[eq_false h,go_sem]
      obtain rfl:k=m:=by omega
      rw[Nat.sub_self] at he
      rw[show rounds k w=v from he]
      with_reducible repeat' (first|refine br ?_ ?_<;>intro h e<;>(try simp only[e,go_sem])<;>clear e|rw[q00 (by omega)]|refine sd ?_<;>try simp only[go_sem]|fail)
      all_goals first|done|simp
theorem r15 (w:M.World) (e:Ev) (hs:WS w) (hq:q0v w=true→∃X,WX X w) (ht:e.pkt.text.length≤2000000):FnR Tryz.prog G 15 [.agg [.sl 10 (w.convs.map Conv.row),.sl 3 (w.door.map.map Pair.row),.sl 8 (w.door.flows.map Flw.row),.sl 7 (w.nets.map Pk.row)],.agg [.int .i64 e.kind,.int .i64 e.a,.int .i64 e.b,.int .i64 e.c,.int .i64 e.pkt.kind,.int .i64 e.pkt.frm.a,.int .i64 e.pkt.frm.p,.int .i64 e.pkt.to.a,.int .i64 e.pkt.to.p,.int .i64 e.pkt.at_,.str e.pkt.text]] (.agg [.sl 10 ((q3l w e).convs.map Conv.row),.sl 3 ((q3l w e).door.map.map Pair.row),.sl 8 ((q3l w e).door.flows.map Flw.row),.sl 7 ((q3l w e).nets.map Pk.row)]):=by
 have hw:=q6j w e
 cases hok:q0v w with
 | false =>
   refine mF dg15 Tryz.ntmps15 ?_
   have f1:=c26 w hs
   rw[hok] at f1
   rw[hw.2 hok]
   simp only[ic15,go_sem,q2l,List.map_nil]
   with_reducible repeat' (first|refine br ?_ ?_<;>intro h e<;>(try simp only[e,go_sem])<;>clear e|rw[q00 (by omega)]|refine sd ?_<;>try simp only[go_sem]|(first|refine cr (f1 ..) ?_)<;>try simp only[go_sem]|fail)
 | true =>
   obtain⟨X,hx⟩:=hq hok
   rw[hw.1 hok]
   exact x15 w e hx hok ht
theorem r8 (w:M.World) (n:Int) (hs:WS w) (hq:q0v w=true→∃X,WX X w):FnR Tryz.prog G 8 [.agg [.sl 10 (w.convs.map Conv.row),.sl 3 (w.door.map.map Pair.row),.sl 8 (w.door.flows.map Flw.row),.sl 7 (w.nets.map Pk.row)],.int .i64 n] (.agg [.sl 10 ((q1u w n).convs.map Conv.row),.sl 3 ((q1u w n).door.map.map Pair.row),.sl 8 ((q1u w n).door.flows.map Flw.row),.sl 7 ((q1u w n).nets.map Pk.row)]):=by
 have hw:=q4g w n
 by_cases hg:q0v w=true∧q0j n 0 6=true
 ·obtain⟨hok,hwi⟩:=hg
  have hn:=M.within_iff.1 hwi
  obtain⟨m,rfl⟩:∃m:Nat,n=m:=⟨n.toNat,by omega⟩
  obtain⟨X,hx⟩:=hq hok
  rw[hw.1 hok m rfl (by omega)]
  exact x8 w m (by omega) hx hok
 ·refine mF dg8 Tryz.ntmps8 ?_
  have f1:=c26 w hs
  have f2:=c27 n 0 6
  have hz:(q0v w&&q0j n 0 6)=false:=by
   cases h:(q0v w&&q0j n 0 6) with
   | false=>rfl
   | true=>exact absurd (by simpa using h) hg
  rw[hw.2 hz]
  clear hw
  cases hok:q0v w with
  | false =>
    rw[hok] at f1
    simp only[ic8,go_sem,q2l,List.map_nil]
    with_reducible repeat' (first|refine br ?_ ?_<;>intro h e<;>(try simp only[e,go_sem])<;>clear e|rw[q00 (by omega)]|refine sd ?_<;>try simp only[go_sem]|(first|refine cr (f1 ..) ?_)<;>try simp only[go_sem]|fail)
  | true =>
    rw[hok] at f1 hz
    rw[Bool.true_and] at hz
    rw[hz] at f2
    simp only[ic8,go_sem,q2l,List.map_nil]
    with_reducible repeat' (first|refine br ?_ ?_<;>intro h e<;>(try simp only[e,go_sem])<;>clear e|rw[q00 (by omega)]|refine sd ?_<;>try simp only[go_sem]|(first|refine cr (f1 ..) ?_|refine cr (f2 ..) ?_)<;>try simp only[go_sem]|fail)
end Go.Proofs.YtpppoklkijmeoaaGreatDoor.W
namespace Go.Proofs.YtpppoklkijmeoaaGreatDoor.W
open Go Go.RowKit Go.Proofs Go.Proofs.YtpppoklkijmeoaaGreatDoor.VL Go.Proofs.YtpppoklkijmeoaaGreatDoor.M
attribute [local go_sem] qnl qy9 qe1 qdp qw8 qnm q8i Int.reduceToNat q1j qdw List.flatMap_cons List.flatMap_nil
theorem q9t (n:Nat):∀v∈List.replicate n V.undef,qcs v=true:=λv hv=>by rw[(List.mem_replicate.1 hv).2];rfl
set_option maxHeartbeats 2000000 in
theorem d62 (rows:List (List V)) (fs:List Flw) (hr:rows.length≤2000000) (hl:fs.length≤1000000) (hb:∀f∈fs,f.up.parts.length≤2000000∧f.down.parts.length≤2000000) :
 FnP Tryz.prog G 62 0 [] [.agg [.sl 3 rows,.sl 8 (fs.map Flw.row)]] (λr o=>r=.agg [.own 0 rows.length,.view 1 fs.length fs.length]∧o=[.arr 132 3 rows,.var 130 (frow 2 fs)]++q32 fs):=by
 refine mPN dn62 Tryz.ntmps62 ⟨_,_,rfl,rfl⟩ ?_
 simp only[in62,go_sem]
 with_reducible repeat' (first|refine br ?_ ?_<;>intro h e<;>(try simp only[e,go_sem])<;>clear e|rw[q00 (by omega)]|refine sd ?_<;>try simp only[go_sem]|fail)
 refine q14 (c112 rows hr) [] 8 1 (by simp only[go_sem];first|done|simp) (by simp) (by rintro _ _ ⟨rfl,rfl⟩;simp) (by intro i hi;obtain rfl:i=0:=(by omega);simp only[go_sem]) ?_
 rintro _ _ ⟨rfl,rfl⟩
 simp only[go_sem]
 with_reducible repeat' (first|refine br ?_ ?_<;>intro h e<;>(try simp only[e,go_sem])<;>clear e|rw[q00 (by omega)]|refine sd ?_<;>try simp only[go_sem]|fail)
 refine q0d (λk:Nat=>⟨q0e [(2,.pv 3000002 0),(3,.pv 3000003 0),(15,.sl 8 (fs.map Flw.row)),(16,.int .i64 fs.length),(17,.int .i64 (k:Int))],
  q01 ([(3000002,.var 35 [.nils,.nils]),(3000003,.var 35 [.own 100800 rows.length,.view 3000012 fs.length k]),(100800,.arr 132 3 rows),(3000012,.var 130 (frow 50000000 (fs.take k)++List.replicate ((fs.length - k)*8) .undef))]++q2x 50000000 (fs.take k))⟩)
  (λk=>fs.length - k) (λk=>k≤fs.length) 0 (leN [] (by simp only[go_sem];first|done|omega|rfl) (by simp only[go_sem,List.take_zero,frow,q2x,List.nil_append,List.append_nil,Nat.sub_zero];first|done|(exact qct rfl λj v v' h1 h2=>by rw[h1] at h2;cases h2;exact qaq (q9t _ _ (List.mem_of_getElem? h1)))) (by simp[q0f,q2x]) (by simp only[go_sem])) (Nat.zero_le _) ?_
 intro k hk
 simp only[List.cons_append,List.nil_append]
 by_cases h:(k:Int)<fs.length
 ·have hil:k<fs.length:=by omega
  have hg:fs.getD k default=fs[k]:=by simp[List.getD,hil]
  have e0:fs.take (k+1)=fs.take k++[fs[k]]:=by rw[List.take_add_one];simp[hil]
  have e1:List.replicate ((fs.length - k)*8) V.undef=List.replicate 8 V.undef++List.replicate ((fs.length - (k+1))*8) V.undef:=by rw[List.replicate_append_replicate];congr 1;omega
  obtain⟨R,hR⟩:∃R,List.replicate ((fs.length - (k+1))*8) V.undef=R:=⟨_,rfl⟩
  have hRl:R.length=8*(fs.length - (k+1)):=by rw[←hR];simp;omega
  have hRf:∀v∈R,qcs v=true:=by rw[←hR];exact q9t _
  obtain⟨Z,hZ⟩:∃Z,List.replicate 8 V.undef=Z:=⟨_,rfl⟩
  have hZl:Z.length=8:=by rw[←hZ];simp
  obtain⟨gs,hgs⟩:∃gs,fs.take k=gs:=⟨_,rfl⟩
  have hgl:gs.length=k:=by rw[←hgs];simp;omega
  have hPl:(frow 50000000 gs).length=k*8:=by rw[q0p,hgl];omega
  have lR:(frow 50000000 gs++(Z++R)).length=fs.length*8:=by rw[zA,zA,hPl,hZl,hRl];omega
  have t8:List.take (k*8) (frow 50000000 gs++(Z++R))=frow 50000000 gs:=by rw[List.take_left' hPl]
  have d8:List.drop (k*8+8) (frow 50000000 gs++(Z++R))=R:=by rw[←List.append_assoc,List.drop_left'];rw[zA,hPl,hZl]
  rw[e1,hR,hZ]
  simp only[hgs,eq_true h,go_sem]
  with_reducible repeat' (first|refine br ?_ ?_<;>intro h e<;>(try simp only[e,go_sem,hg,lR,t8,d8,List.append_assoc,q08,q02,List.append_assoc,List.cons_append,List.nil_append,Nat.reduceLT])<;>clear e|rw[q00 (by omega)]|refine sd ?_<;>try simp only[go_sem,hg,lR,t8,d8,List.append_assoc,q08,q02,List.append_assoc,List.cons_append,List.nil_append,Nat.reduceLT]|fail)
  refine q14 (n113 fs[k] (hb _ (List.getElem_mem hil))) [] 24 2 (by simp only[go_sem,q08,q02,List.append_assoc,List.cons_append,List.nil_append,Nat.reduceLT];first|done|simp) (by simp) (by rintro _ _ ⟨rfl,rfl⟩;simp) (by intro i hi;rcases(show i=0∨i=1 by omega) with rfl|rfl<;>simp only[go_sem,q08,q02,List.append_assoc,List.cons_append,List.nil_append,Nat.reduceLT]) ?_
  rintro _ _ ⟨rfl,rfl⟩
  simp only[lR,t8,d8,List.append_assoc,go_sem,q08,q02,List.append_assoc,List.cons_append,List.nil_append,Nat.reduceLT]
  with_reducible repeat' (first|refine br ?_ ?_<;>intro h e<;>(try simp only[e,go_sem,lR,t8,d8,List.append_assoc,q08,q02,List.append_assoc,List.cons_append,List.nil_append,Nat.reduceLT])<;>clear e|rw[q00 (by omega)]|refine sd ?_<;>try simp only[go_sem,lR,t8,d8,List.append_assoc,q08,q02,List.append_assoc,List.cons_append,List.nil_append,Nat.reduceLT]|fail)
  refine⟨k+1,by omega,by omega, ?_⟩
  simp only[e0,hgs,hR]
  refine qnb (L2:=[(3000002,.var 35 [.nils,.nils]),(3000003,.var 35 [.own 100800 rows.length,.view 3000012 fs.length (k+1)]),(100800,.arr 132 3 rows),(3000012,.var 130 (frow 50000000 (gs++[fs[k]])++R))]) 50000000 102400 gs fs[k] (λF g h' hg hh=>?_) (λF g h' hg hh hg2 hx hh2 p hp=>?_) ?_ ⟨by simp only[go_sem,q08,q02,List.append_assoc,List.cons_append,List.nil_append,Nat.reduceLT],by simp only[go_sem,q08,q02,List.append_assoc,List.cons_append,List.nil_append,Nat.reduceLT]⟩ (by decide) ⟨by simp only[go_sem],by simp only[go_sem]⟩ (by simp only[List.all_cons,List.all_nil,Nat.reduceLT,decide_true,Bool.and_self])
  ·simp only[go_sem,hg,hh,Nat.reduceLT]
   first|done|omega
  ·simp only[List.mem_cons,List.not_mem_nil,or_false] at hp
   rcases hp with rfl|rfl|rfl|rfl<;>simp only[go_sem,hg,hh,Nat.reduceLT,q08,q02,List.append_assoc,List.cons_append,List.nil_append,Nat.reduceLT]
   exact qct (by simp only[zA,q0p,zC,zN];omega) λj v v' h1 h2=>qdt hg2 hx hh2 hRf h1 h2
  ·repeat' first|exact q0s _ _|refine q0n (.inl (by decide)) ?_
 ·simp only[eq_false h,go_sem]
  have:k=fs.length:=by omega
  subst this
  simp only[List.take_length,Nat.sub_self,Nat.zero_mul,List.replicate_zero,List.append_nil]
  with_reducible repeat' (first|refine br ?_ ?_<;>intro h e<;>(try simp only[e,go_sem,q08,q02,List.append_assoc,List.cons_append,List.nil_append,Nat.reduceLT])<;>clear e|rw[q00 (by omega)]|refine sd ?_<;>try simp only[go_sem,q08,q02,List.append_assoc,List.cons_append,List.nil_append,Nat.reduceLT]|fail)
  refine q8o 2 50000000 (.agg [.own 0 rows.length,.view 1 fs.length fs.length]) [.arr 132 3 rows,.var 130 (frow 2 fs)] [(0,100800),(1,3000012)] rfl ?_ ⟨rfl,rfl⟩ (λc hc F f h' hf hh hj=>?_) ?_ (by simp[q0f,List.range_succ]) (λc hc=>?_)
  ·simp only[go_sem,q08,q02,List.append_assoc,List.cons_append,List.nil_append,Nat.reduceLT]
   intro F f h' hf hh
   simp only[go_sem,hf,hh,Nat.reduceLT]
  ·rcases(show c=0∨c=1 by omega) with rfl|rfl<;>simp only[go_sem,q08,q02,List.append_assoc,List.cons_append,List.nil_append,Nat.reduceLT]
   exact qct (by rw[q0p,q0p]) λj v v' h1 h2=>q2r (λj hj'=>hj j hj') h1 h2
  ·repeat' first|exact q0s _ _|refine q0n (.inl (by decide)) ?_
  ·rcases(show c=0∨c=1 by omega) with rfl|rfl<;>exact .inl (by decide)
def WH (w:M.World):List Hs:=[.arr 91 10 (w.convs.map Conv.row),.arr 132 3 (w.door.map.map Pair.row),.var 130 (frow 4 w.door.flows),.arr 54 7 (w.nets.map Pk.row)]++q32 w.door.flows
def WV (b:Nat) (w:M.World):V:=.agg [.own b w.convs.length,.own (b+1) w.door.map.length,.view (b+2) w.door.flows.length w.door.flows.length,.own (b+3) w.nets.length]
def WL (b:Nat) (w:M.World):List (Nat×Hs):=[(b,.arr 91 10 (w.convs.map Conv.row)),(b+1,.arr 132 3 (w.door.map.map Pair.row)),(b+2,.var 130 (frow (b+4) w.door.flows)),(b+3,.arr 54 7 (w.nets.map Pk.row))]++q2x (b+4) w.door.flows
theorem d28 {X:List (E×E)} (w:M.World) (hw:WX X w):FnP Tryz.prog G 28 0 [] [.agg [.sl 10 (w.convs.map Conv.row),.sl 3 (w.door.map.map Pair.row),.sl 8 (w.door.flows.map Flw.row),.sl 7 (w.nets.map Pk.row)]] (λr o=>r=WV 0 w∧o=WH w):=by
 refine mP dg28 Tryz.ntmps28 ⟨_,_,rfl,rfl⟩ ?_
 have hnl:=hw.nl
 have hcl:=hw.cl
 have hf4:=hw.flows4
 obtain⟨hdm,hdf,_⟩:=q0c.1 hw.door
 have hml:=(q0b hdm).2
 simp only[ic28,go_sem]
 with_reducible repeat' (first|refine br ?_ ?_<;>intro h e<;>(try simp only[e,go_sem])<;>clear e|rw[q00 (by omega)]|refine sd ?_<;>try simp only[go_sem]|fail)
 refine q14 (c61 (w.convs.map Conv.row) (by simp;omega)) [] 5 1 (by simp only[go_sem];first|done|simp) (by simp) (by rintro _ _ ⟨rfl,rfl⟩;simp) (by intro i hi;obtain rfl:i=0:=(by omega);simp only[go_sem]) ?_
 rintro _ _ ⟨rfl,rfl⟩
 simp only[go_sem]
 with_reducible repeat' (first|refine br ?_ ?_<;>intro h e<;>(try simp only[e,go_sem])<;>clear e|rw[q00 (by omega)]|refine sd ?_<;>try simp only[go_sem]|fail)
 refine q1z (o60 (w.convs.map Conv.row) w.convs.length (by simp)) [100500] [] 6 1 (by simp only[go_sem];first|done|simp) (by simp only[go_sem];first|done|simp) (by simp) (by simp) (by rintro _ _ ⟨rfl,rfl⟩;simp) (by intro i hi;obtain rfl:i=0:=(by omega);simp only[go_sem]) ?_
 rintro _ _ ⟨rfl,rfl⟩
 simp only[go_sem]
 with_reducible repeat' (first|refine br ?_ ?_<;>intro h e<;>(try simp only[e,go_sem])<;>clear e|rw[q00 (by omega)]|refine sd ?_<;>try simp only[go_sem]|fail)
 refine q14 (d62 (w.door.map.map Pair.row) w.door.flows (by simp;omega) (by omega) (qmv hw.door)) [] 1000000 (2+2*w.door.flows.length) (by simp only[go_sem];first|done|simp) (by simp) (by rintro _ _ ⟨rfl,rfl⟩;simp[q2u];omega) (λi _=>q6k (B:=100000000) (by simp only[List.all_cons,List.all_nil,Nat.reduceLT,decide_true,Bool.and_self]) (by simp only[q3u];omega)) ?_
 rintro _ _ ⟨rfl,rfl⟩
 simp only[go_sem,List.length_map,q0z,q1f,Nat.reduceMul,q08,q02,List.append_assoc,List.cons_append,List.nil_append,Nat.reduceLT]
 with_reducible repeat' (first|refine q4t (by repeat' first|exact q0q|refine q0g (by first|exact q51 (by decide)|kernel_rfl) ?_) ?_;try simp only[go_sem,q0z,q1f,Nat.reduceMul,q08,q02,List.append_assoc,List.cons_append,List.nil_append,Nat.reduceLT]|refine br ?_ ?_<;>intro h e<;>(try simp only[e,go_sem,q0z,q1f,Nat.reduceMul,q08,q02,List.append_assoc,List.cons_append,List.nil_append,Nat.reduceLT])<;>clear e|rw[q00 (by omega)]|refine sd ?_<;>try simp only[go_sem,q0z,q1f,Nat.reduceMul,q08,q02,List.append_assoc,List.cons_append,List.nil_append,Nat.reduceLT]|fail)
 refine q14 (c64 (w.nets.map Pk.row) (by simp;omega)) [] 12 1 (by simp only[go_sem];first|done|simp) (by simp) (by rintro _ _ ⟨rfl,rfl⟩;simp) (by intro i hi;obtain rfl:i=0:=(by omega);simp only[go_sem,q08,q02,List.append_assoc,List.cons_append,List.nil_append,Nat.reduceLT]) ?_
 rintro _ _ ⟨rfl,rfl⟩
 simp only[go_sem,q08,q02,List.append_assoc,List.cons_append,List.nil_append,Nat.reduceLT]
 with_reducible repeat' (first|refine q4t (by repeat' first|exact q0q|refine q0g (by first|exact q51 (by decide)|kernel_rfl) ?_) ?_;try simp only[go_sem,q08,q02,List.append_assoc,List.cons_append,List.nil_append,Nat.reduceLT]|refine br ?_ ?_<;>intro h e<;>(try simp only[e,go_sem,q08,q02,List.append_assoc,List.cons_append,List.nil_append,Nat.reduceLT])<;>clear e|rw[q00 (by omega)]|refine sd ?_<;>try simp only[go_sem,q08,q02,List.append_assoc,List.cons_append,List.nil_append,Nat.reduceLT]|fail)
 refine q1z (o63 (w.nets.map Pk.row) w.nets.length (by simp)) [101200] [] 13 1 (by simp only[go_sem,q08,q02,List.append_assoc,List.cons_append,List.nil_append,Nat.reduceLT];first|done|simp) (by simp only[go_sem,q08,q02,List.append_assoc,List.cons_append,List.nil_append,Nat.reduceLT];first|done|simp) (by simp) (by simp) (by rintro _ _ ⟨rfl,rfl⟩;simp) (by intro i hi;obtain rfl:i=0:=(by omega);simp only[go_sem,q08,q02,List.append_assoc,List.cons_append,List.nil_append,Nat.reduceLT]) ?_
 rintro _ _ ⟨rfl,rfl⟩
 simp only[go_sem,q08,q02,List.append_assoc,List.cons_append,List.nil_append,Nat.reduceLT]
 with_reducible repeat' (first|refine q4t (by repeat' first|exact q0q|refine q0g (by first|exact q51 (by decide)|kernel_rfl) ?_) ?_;try simp only[go_sem,q08,q02,List.append_assoc,List.cons_append,List.nil_append,Nat.reduceLT]|refine br ?_ ?_<;>intro h e<;>(try simp only[e,go_sem,q08,q02,List.append_assoc,List.cons_append,List.nil_append,Nat.reduceLT])<;>clear e|rw[q00 (by omega)]|refine sd ?_<;>try simp only[go_sem,q08,q02,List.append_assoc,List.cons_append,List.nil_append,Nat.reduceLT]|fail)
 refine q8o 4 100100002 (gs:=w.door.flows) (WV 0 w) [.arr 91 10 (w.convs.map Conv.row),.arr 132 3 (w.door.map.map Pair.row),.var 130 (frow 4 w.door.flows),.arr 54 7 (w.nets.map Pk.row)] [(0,100600),(1,100100000),(2,100100001),(3,101300)] rfl ?_ ⟨rfl,rfl⟩ (λc hc F f h' hf hh hj=>?_) ?_ (by simp[q0f,List.range_succ]) (λc hc=>?_)
 ·simp only[go_sem,q08,q02,List.append_assoc,List.cons_append,List.nil_append,Nat.reduceLT]
  intro F f h' hf hh
  simp only[WV,go_sem,hf,hh,Nat.reduceLT]
 ·rcases(show c=0∨c=1∨c=2∨c=3 by omega) with rfl|rfl|rfl|rfl<;>simp only[go_sem,q08,q02,List.append_assoc,List.cons_append,List.nil_append,Nat.reduceLT]
  exact qct (by rw[q0p,q0p]) λj v v' h1 h2=>q2r (λj hj'=>hj j hj') h1 h2
 ·repeat' first|exact q21 _ _ _|exact q0s _ _|refine q0n (.inl (by decide)) ?_
 ·rcases(show c=0∨c=1∨c=2∨c=3 by omega) with rfl|rfl|rfl|rfl<;>exact .inl (by decide)
theorem qji {w:M.World} (h:q0v w=true):WX (w.door.flows.map (λf=>(f.ins,f.out))++w.nets.map λp=>(p.frm,p.to)) w:=by
 have hk:=h
 simp only[q0v,Bool.and_eq_true,decide_eq_true_eq,List.all_eq_true] at hk
 obtain⟨⟨⟨h1,h2⟩,h3⟩,h4⟩:=hk
 exact⟨qcl h1,(q2y.1 h1).1,h2,λf hf=>.inr (List.mem_append_left _ (List.mem_map.2 ⟨f,hf,rfl⟩)),h3,λp hp=>⟨qn5 (h4 p hp),λ_=>.inr (List.mem_append_right _ (List.mem_map.2 ⟨p,hp,rfl⟩))⟩⟩
set_option maxHeartbeats 1000000 in
theorem d15 {X:List (E×E)} (w:M.World) (e:Ev) (hw:WX X w) (hok:q0v w=true) (ht:e.pkt.text.length≤2000000):FnP Tryz.prog G 15 0 [] [.agg [.sl 10 (w.convs.map Conv.row),.sl 3 (w.door.map.map Pair.row),.sl 8 (w.door.flows.map Flw.row),.sl 7 (w.nets.map Pk.row)],.agg [.int .i64 e.kind,.int .i64 e.a,.int .i64 e.b,.int .i64 e.c,.int .i64 e.pkt.kind,.int .i64 e.pkt.frm.a,.int .i64 e.pkt.frm.p,.int .i64 e.pkt.to.a,.int .i64 e.pkt.to.p,.int .i64 e.pkt.at_,.str e.pkt.text]] (λr o=>r=WV 0 (wDo w e)∧o=WH (wDo w e)):=by
 refine mP dg15 Tryz.ntmps15 ⟨_,_,rfl,rfl⟩ ?_
 have f1:=c26 w (qkc hw)
 rw[hok] at f1
 simp only[ic15,go_sem]
 with_reducible repeat' (first|refine br ?_ ?_<;>intro h e<;>(try simp only[e,go_sem])<;>clear e|rw[q00 (by omega)]|refine sd ?_<;>try simp only[go_sem]|(first|refine cr (f1 ..) ?_)<;>try simp only[go_sem]|fail)
 refine q14 (o28 w hw) [] 11 3 (by simp only[go_sem];first|done|simp) (by simp) (by rintro _ _ ⟨rfl,rfl⟩;simp) (by intro i hi;rcases(show i=0∨i=1∨i=2 by omega) with rfl|rfl|rfl<;>simp only[go_sem]) ?_
 rintro _ _ ⟨rfl,rfl⟩
 simp only[go_sem]
 with_reducible repeat' (first|refine br ?_ ?_<;>intro h e<;>(try simp only[e,go_sem])<;>clear e|rw[q00 (by omega)]|refine sd ?_<;>try simp only[go_sem]|fail)
 refine q1k (x42 w e hw ht) [3000005,101101,101100,101102] [] true 13 4 (by simp only[go_sem];first|done|simp) (by simp only[go_sem];first|done|simp) (by simp) (by simp) (by simp) ?_ ?_ ?_
 ·rintro _ _ ⟨rfl,v',hv',rfl⟩
  exact⟨by simp,by simp,.inl rfl,λi hi=>by obtain rfl:i=0:=(by omega);simp[chH,q0h]⟩
 ·intro i hi
  rcases(show i=0∨i=1∨i=2∨i=3 by omega) with rfl|rfl|rfl|rfl<;>simp only[go_sem]
 rintro _ _ ⟨rfl,v,hv,rfl⟩
 have hwv:WX X v:=by rw[hv];exact qqu hw e
 rw[←hv]
 simp only[go_sem]
 with_reducible repeat' (first|refine br ?_ ?_<;>intro h e<;>(try simp only[e,go_sem])<;>clear e|rw[q00 (by omega)]|refine sd ?_<;>try simp only[go_sem]|fail)
 refine q14 (d28 v hwv) [101302,101301,101303] 2000000 (4+2*v.door.flows.length) (by simp only[go_sem];first|done|simp) (by simp only[List.mem_cons,List.not_mem_nil,or_false];rintro c (rfl|rfl|rfl)<;>simp only[go_sem]) (by rintro _ _ ⟨rfl,rfl⟩;simp[WH,q2u];omega) (λi _=>q6k (B:=200000000) (by simp only[List.all_cons,List.all_nil,Nat.reduceLT,decide_true,Bool.and_self]) (by simp only[q3u];omega)) ?_
 rintro _ _ ⟨rfl,rfl⟩
 simp only[WV,WH,go_sem,List.length_map,q0z,q1f,Nat.reduceMul,q08,q02,List.append_assoc,List.cons_append,List.nil_append,Nat.reduceLT]
 with_reducible repeat' (first|refine br ?_ ?_<;>intro h e<;>(try simp only[e,go_sem,q0z,q1f,Nat.reduceMul,q08,q02,List.append_assoc,List.cons_append,List.nil_append,Nat.reduceLT])<;>clear e|rw[q00 (by omega)]|refine sd ?_<;>try simp only[go_sem,q0z,q1f,Nat.reduceMul,q08,q02,List.append_assoc,List.cons_append,List.nil_append,Nat.reduceLT]|fail)
 refine q8o 4 200100004 (gs:=v.door.flows) (WV 0 v) [.arr 91 10 (v.convs.map Conv.row),.arr 132 3 (v.door.map.map Pair.row),.var 130 (frow 4 v.door.flows),.arr 54 7 (v.nets.map Pk.row)] [(0,200100000),(1,200100001),(2,200100002),(3,200100003)] rfl ?_ ⟨rfl,rfl⟩ (λc hc F f h' hf hh hj=>?_) ?_ (by simp[q0f,List.range_succ]) (λc hc=>?_)
 ·simp only[go_sem,q08,q02,List.append_assoc,List.cons_append,List.nil_append,Nat.reduceLT]
  intro F f h' hf hh
  simp only[WV,go_sem,hf,hh,Nat.reduceLT]
 ·rcases(show c=0∨c=1∨c=2∨c=3 by omega) with rfl|rfl|rfl|rfl<;>simp only[go_sem,q08,q02,List.append_assoc,List.cons_append,List.nil_append,Nat.reduceLT]
  exact qct (by rw[q0p,q0p]) λj v v' h1 h2=>q2r (λj hj'=>hj j hj') h1 h2
 ·repeat' first|exact q21 _ _ _|exact q0s _ _|refine q0n (.inl (by decide)) ?_
 ·rcases(show c=0∨c=1∨c=2∨c=3 by omega) with rfl|rfl|rfl|rfl<;>exact .inl (by decide)
set_option maxHeartbeats 1000000 in
theorem d8 {X:List (E×E)} (w:M.World) (n:Nat) (hn:n≤6) (hw:WX X w) (hok:q0v w=true):FnP Tryz.prog G 8 0 [] [.agg [.sl 10 (w.convs.map Conv.row),.sl 3 (w.door.map.map Pair.row),.sl 8 (w.door.flows.map Flw.row),.sl 7 (w.nets.map Pk.row)],.int .i64 (n:Int)] (λr o=>r=WV 0 (rounds n w)∧o=WH (rounds n w)):=by
 refine mP dg8 Tryz.ntmps8 ⟨_,_,rfl,rfl⟩ ?_
 have f1:=c26 w (qkc hw)
 rw[hok] at f1
 have hwi:q0j (n:Int) 0 6=true:=M.within_iff.2 (by omega)
 simp only[ic8,go_sem]
 with_reducible repeat' (first|refine br ?_ ?_<;>intro h e<;>(try simp only[e,go_sem,hwi])<;>clear e|rw[q00 (by omega)]|refine sd ?_<;>try simp only[go_sem,hwi]|(first|refine cr (f1 ..) ?_|refine cr (c27 ..) ?_)<;>try simp only[go_sem,hwi]|fail)
 refine q14 (o28 w hw) [] 16 3 (by simp only[go_sem];first|done|simp) (by simp) (by rintro _ _ ⟨rfl,rfl⟩;simp) (by intro i hi;rcases(show i=0∨i=1∨i=2 by omega) with rfl|rfl|rfl<;>simp only[go_sem]) ?_
 rintro _ _ ⟨rfl,rfl⟩
 simp only[go_sem]
 with_reducible repeat' (first|refine br ?_ ?_<;>intro h e<;>(try simp only[e,go_sem])<;>clear e|rw[q00 (by omega)]|refine sd ?_<;>try simp only[go_sem]|fail)
 refine q0d (λa:Nat×M.World=>⟨q0e [(4,.pv 3000004 0),(5,.pv 3000005 0),(17,.int .i64 (n:Int)),(18,.int .i64 (a.1:Int))],q01 [(3000004,.var 38 [.nils,.nils,.nils,.nils]),(3000005,.var 38 [.own 101600 a.2.convs.length,.sl 3 (a.2.door.map.map Pair.row),.own 101601 a.2.door.flows.length,.own 101602 a.2.nets.length]),(101601,.arr 130 8 (a.2.door.flows.map Flw.row)),(101600,.arr 91 10 (a.2.convs.map Conv.row)),(101602,.arr 54 7 (a.2.nets.map Pk.row))]⟩)
  (λa=>n - a.1) (λa=>a.1≤n∧WX X a.2∧rounds n w=rounds (n - a.1) a.2) (0,w) (leQ []) ⟨Nat.zero_le _,hw,rfl⟩ ?_
 intro⟨k,v⟩ ⟨hk,hv,he⟩
 simp only at hk hv he
 simp only[go_sem]
 by_cases h:(k:Int)<n
 ·rw[show n - k=(n - (k+1))+1 by omega] at he
  simp only[eq_true h,go_sem]
  refine q1k (c29 v hv) [3000005,101601,101600,101602] [] true 20 4 (by simp only[go_sem];first|done|simp) (by simp only[go_sem];first|done|simp) (by simp) (by simp) (by simp) ?_ ?_ ?_
  ·rintro _ _ ⟨rfl,v',hv',rfl⟩
   exact⟨by simp,by simp,.inl rfl,λi hi=>by obtain rfl:i=0:=(by omega);simp[chH,q0h]⟩
  ·intro i hi
   rcases(show i=0∨i=1∨i=2∨i=3 by omega) with rfl|rfl|rfl|rfl<;>simp only[go_sem]
  rintro _ _ ⟨rfl,v',hv',rfl⟩
  simp only[go_sem]
  with_reducible repeat' (first|rw[q00 (by omega)];try simp only[go_sem]|refine br ?_ ?_<;>intro h e<;>(try simp only[e,go_sem])<;>clear e|refine sd ?_<;>try simp only[go_sem]|fail)
  exact⟨(k+1,v'),by simp only;omega,⟨by simp only;omega,by rw[hv'];exact hv.round,by rw[hv'];exact he⟩,(leQ [(101601,102001),(101600,102002),(101602,102003)])⟩
 ·simp only[eq_false h,go_sem]
  obtain rfl:k=n:=by omega
  rw[Nat.sub_self] at he
  rw[show rounds k w=v from he]
  refine q14 (d28 v hv) [101600,101601,101602] 2000000 (4+2*v.door.flows.length) (by simp only[go_sem];first|done|simp) (by simp only[List.mem_cons,List.not_mem_nil,or_false];rintro c (rfl|rfl|rfl)<;>simp only[go_sem]) (by rintro _ _ ⟨rfl,rfl⟩;simp[WH,q2u];omega) (λi _=>q6k (B:=200000000) (by simp only[List.all_cons,List.all_nil,Nat.reduceLT,decide_true,Bool.and_self]) (by simp only[q3u];omega)) ?_
  rintro _ _ ⟨rfl,rfl⟩
  simp only[WV,WH,go_sem,List.length_map,q0z,q1f,Nat.reduceMul,q08,q02,List.append_assoc,List.cons_append,List.nil_append,Nat.reduceLT]
  with_reducible repeat' (first|refine br ?_ ?_<;>intro h e<;>(try simp only[e,go_sem,q0z,q1f,Nat.reduceMul,q08,q02,List.append_assoc,List.cons_append,List.nil_append,Nat.reduceLT])<;>clear e|rw[q00 (by omega)]|refine sd ?_<;>try simp only[go_sem,q0z,q1f,Nat.reduceMul,q08,q02,List.append_assoc,List.cons_append,List.nil_append,Nat.reduceLT]|fail)
  refine q8o 4 200100004 (gs:=v.door.flows) (WV 0 v) [.arr 91 10 (v.convs.map Conv.row),.arr 132 3 (v.door.map.map Pair.row),.var 130 (frow 4 v.door.flows),.arr 54 7 (v.nets.map Pk.row)] [(0,200100000),(1,200100001),(2,200100002),(3,200100003)] rfl ?_ ⟨rfl,rfl⟩ (λc hc F f h' hf hh hj=>?_) ?_ (by simp[q0f,List.range_succ]) (λc hc=>?_)
  ·simp only[go_sem,q08,q02,List.append_assoc,List.cons_append,List.nil_append,Nat.reduceLT]
   intro F f h' hf hh
   simp only[WV,go_sem,hf,hh,Nat.reduceLT]
  ·rcases(show c=0∨c=1∨c=2∨c=3 by omega) with rfl|rfl|rfl|rfl<;>simp only[go_sem,q08,q02,List.append_assoc,List.cons_append,List.nil_append,Nat.reduceLT]
   exact qct (by rw[q0p,q0p]) λj v v' h1 h2=>q2r (λj hj'=>hj j hj') h1 h2
  ·repeat' first|exact q21 _ _ _|exact q0s _ _|refine q0n (.inl (by decide)) ?_
  ·rcases(show c=0∨c=1∨c=2∨c=3 by omega) with rfl|rfl|rfl|rfl<;>exact .inl (by decide)
end Go.Proofs.YtpppoklkijmeoaaGreatDoor.W
namespace Go.Proofs.YtpppoklkijmeoaaGreatDoor.W
open Go Go.RowKit Go.Proofs Go.Proofs.YtpppoklkijmeoaaGreatDoor.VL Go.Proofs.YtpppoklkijmeoaaGreatDoor.M
attribute [local go_sem] q1j
def ic24:IC:=sR [oP 1 (.box 26 (.t 0)),oP 2 (.alloc 35 [.nils,.nils])] (sR [oP 3 (.alloc 35 [.nils,.nils])] (sR [fD 4 0 1,lD 5 1 4,oP 6 (.call 53 [.t 5]),fD 7 0 3,nP (.sto 1 (.t 7) (.t 6))] (sR [fD 8 1 1,lD 9 1 8,oP 10 (.call 54 [.t 9]),fD 11 1 3,nP (.sto 1 (.t 11) (.t 10))] (sR [lA 12 2 3,nP (.sto 2 (.t 2) (.t 12))] .ret))))
theorem dg24:Dg Tryz.prog 24 Tryz.f24 ic24 [(.cell 2 2 true)]:=⟨Tryz.func24,by kernel_rfl,by kernel_rfl⟩
theorem x24 (d:Door) (h1:d.map.length≤1048576) (h2:d.flows.length≤1048576) (hb:∀f∈d.flows,ptB f):FnR Tryz.prog G 24 [.agg [.sl 3 (d.map.map Pair.row),.sl 8 (d.flows.map Flw.row)]] (.agg [.sl 3 (d.map.map Pair.row),.sl 8 (d.flows.map Flw.row)]):=by
 refine mF dg24 Tryz.ntmps24 ?_
 have c1:=x53 d.map h1
 have c2:=x54 d.flows h2 hb
 simp only[ic24,go_sem]
 with_reducible repeat' (first|refine br ?_ ?_<;>intro h e<;>(try simp only[e,go_sem])<;>clear e|rw[q00 (by omega)]|refine sd ?_<;>try simp only[go_sem]|(first|refine cr (c1 ..) ?_|refine cr (c2 ..) ?_)<;>try simp only[go_sem]|fail)
theorem d24 (d:Door) (h1:d.map.length≤1048576) (h2:d.flows.length≤1048576) (hb:∀f∈d.flows,ptB f):FnP Tryz.prog G 24 0 [] [.agg [.sl 3 (d.map.map Pair.row),.sl 8 (d.flows.map Flw.row)]] (λr o=>r=.agg [.own 0 d.map.length,.view 1 d.flows.length d.flows.length]∧o=[.arr 132 3 (d.map.map Pair.row),.var 130 (frow 2 d.flows)]++q32 d.flows):=by
 refine mP dg24 Tryz.ntmps24 ⟨_,_,rfl,rfl⟩ ?_
 simp only[ic24,go_sem]
 with_reducible repeat' (first|refine br ?_ ?_<;>intro h e<;>(try simp only[e,go_sem])<;>clear e|rw[q00 (by omega)]|refine sd ?_<;>try simp only[go_sem]|fail)
 refine q14 (c53 d.map h1) [] 6 1 (by simp only[go_sem];first|done|simp) (by simp) (by rintro _ _ ⟨rfl,rfl⟩;simp) (by intro i hi;obtain rfl:i=0:=(by omega);simp only[go_sem]) ?_
 rintro _ _ ⟨rfl,rfl⟩
 simp only[go_sem]
 with_reducible repeat' (first|refine br ?_ ?_<;>intro h e<;>(try simp only[e,go_sem])<;>clear e|rw[q00 (by omega)]|refine sd ?_<;>try simp only[go_sem]|fail)
 refine q14 (d54 d.flows h2 hb) [] 1000000 (1+2*d.flows.length) (by simp only[go_sem];first|done|simp) (by simp) (by rintro _ _ ⟨rfl,rfl⟩;simp[q2u];omega) (λi _=>q6k (B:=100000000) (by simp only[List.all_cons,List.all_nil,Nat.reduceLT,decide_true,Bool.and_self]) (by simp only[q3u];omega)) ?_
 rintro _ _ ⟨rfl,rfl⟩
 simp only[go_sem,q0z,q1f,Nat.reduceMul,q08,q02,List.append_assoc,List.cons_append,List.nil_append,Nat.reduceLT]
 with_reducible repeat' (first|refine br ?_ ?_<;>intro h e<;>(try simp only[e,go_sem,q0z,q1f,Nat.reduceMul,q08,q02,List.append_assoc,List.cons_append,List.nil_append,Nat.reduceLT])<;>clear e|rw[q00 (by omega)]|refine sd ?_<;>try simp only[go_sem,q0z,q1f,Nat.reduceMul,q08,q02,List.append_assoc,List.cons_append,List.nil_append,Nat.reduceLT]|fail)
 refine q8o 2 100100001 (gs:=d.flows) (.agg [.own 0 d.map.length,.view 1 d.flows.length d.flows.length]) [.arr 132 3 (d.map.map Pair.row),.var 130 (frow 2 d.flows)] [(0,100600),(1,100100000)] rfl ?_ ⟨rfl,rfl⟩ (λc hc F f h' hf hh hj=>?_) ?_ (by simp[q0f,List.range_succ]) (λc hc=>?_)
 ·simp only[go_sem,q08,q02,List.append_assoc,List.cons_append,List.nil_append,Nat.reduceLT]
  intro F f h' hf hh
  simp only[go_sem,hf,hh,Nat.reduceLT]
 ·rcases(show c=0∨c=1 by omega) with rfl|rfl<;>simp only[go_sem,q08,q02,List.append_assoc,List.cons_append,List.nil_append,Nat.reduceLT]
  exact qct (by rw[q0p,q0p]) λj v v' h1 h2=>q2r (λj hj'=>hj j hj') h1 h2
 ·repeat' first|exact q21 _ _ _|exact q0s _ _|refine q0n (.inl (by decide)) ?_
 ·rcases(show c=0∨c=1 by omega) with rfl|rfl<;>exact .inl (by decide)
def ic7:IC:=sR [oP 1 (.box 29 (.t 0)),oP 2 (.alloc 38 [.nils,.nils,.nils,.nils])] (sR [oP 3 (.alloc 38 [.nils,.nils,.nils,.nils])] (sR [fD 4 0 1,lD 5 1 4,oP 6 (.call 23 [.t 5]),fD 7 0 3,nP (.sto 1 (.t 7) (.t 6))] (sR [fD 8 1 1,lA 9 2 8,oP 10 (.call 24 [.t 9]),fD 11 1 3,nP (.sto 2 (.t 11) (.t 10))] (sR [fD 12 3 1,lD 13 1 12,oP 14 (.call 25 [.t 13]),fD 15 3 3,nP (.sto 1 (.t 15) (.t 14))] (sR [lA 16 4 3,nP (.sto 4 (.t 2) (.t 16))] .ret)))))
theorem dg7:Dg Tryz.prog 7 Tryz.f7 ic7 [(.cell 2 4 true)]:=⟨Tryz.func7,by kernel_rfl,by kernel_rfl⟩
theorem x7 (w:M.World) (h0:w.convs.length≤1048576) (h1:w.door.map.length≤1048576) (h2:w.door.flows.length≤1048576) (hb:∀f∈w.door.flows,ptB f) (h3:w.nets.length≤1048576):FnR Tryz.prog G 7 [.agg [.sl 10 (w.convs.map Conv.row),.sl 3 (w.door.map.map Pair.row),.sl 8 (w.door.flows.map Flw.row),.sl 7 (w.nets.map Pk.row)]] (.agg [.sl 10 (w.convs.map Conv.row),.sl 3 (w.door.map.map Pair.row),.sl 8 (w.door.flows.map Flw.row),.sl 7 (w.nets.map Pk.row)]):=by
 refine mF dg7 Tryz.ntmps7 ?_
 have c1:=x23 w.convs h0
 have c2:=x24 w.door h1 h2 hb
 have c3:=x25 w.nets h3
 simp only[ic7,go_sem]
 with_reducible repeat' (first|refine br ?_ ?_<;>intro h e<;>(try simp only[e,go_sem])<;>clear e|rw[q00 (by omega)]|refine sd ?_<;>try simp only[go_sem]|(first|refine cr (c1 ..) ?_|refine cr (c2 ..) ?_|refine cr (c3 ..) ?_)<;>try simp only[go_sem]|fail)
theorem d7 (w:M.World) (h0:w.convs.length≤1048576) (h1:w.door.map.length≤1048576) (h2:w.door.flows.length≤1048576) (hb:∀f∈w.door.flows,ptB f) (h3:w.nets.length≤1048576):FnP Tryz.prog G 7 0 [] [.agg [.sl 10 (w.convs.map Conv.row),.sl 3 (w.door.map.map Pair.row),.sl 8 (w.door.flows.map Flw.row),.sl 7 (w.nets.map Pk.row)]] (λr o=>r=WV 0 w∧o=WH w):=by
 refine mP dg7 Tryz.ntmps7 ⟨_,_,rfl,rfl⟩ ?_
 simp only[ic7,go_sem]
 with_reducible repeat' (first|refine br ?_ ?_<;>intro h e<;>(try simp only[e,go_sem])<;>clear e|rw[q00 (by omega)]|refine sd ?_<;>try simp only[go_sem]|fail)
 refine q14 (c23 w.convs h0) [] 6 1 (by simp only[go_sem];first|done|simp) (by simp) (by rintro _ _ ⟨rfl,rfl⟩;simp) (by intro i hi;obtain rfl:i=0:=(by omega);simp only[go_sem]) ?_
 rintro _ _ ⟨rfl,rfl⟩
 simp only[go_sem]
 with_reducible repeat' (first|refine br ?_ ?_<;>intro h e<;>(try simp only[e,go_sem])<;>clear e|rw[q00 (by omega)]|refine sd ?_<;>try simp only[go_sem]|fail)
 refine q14 (d24 w.door h1 h2 hb) [] 2000000 (2+2*w.door.flows.length) (by simp only[go_sem];first|done|simp) (by simp) (by rintro _ _ ⟨rfl,rfl⟩;simp[q2u];omega) (λi _=>q6k (B:=200000000) (by simp only[List.all_cons,List.all_nil,Nat.reduceLT,decide_true,Bool.and_self]) (by simp only[q3u];omega)) ?_
 rintro _ _ ⟨rfl,rfl⟩
 simp only[go_sem,q0z,q1f,Nat.reduceMul,q08,q02,List.append_assoc,List.cons_append,List.nil_append,Nat.reduceLT]
 with_reducible repeat' (first|refine q4t (by repeat' first|exact q0q|refine q0g (by first|exact q51 (by decide)|kernel_rfl) ?_) ?_;try simp only[go_sem,q0z,q1f,Nat.reduceMul,q08,q02,List.append_assoc,List.cons_append,List.nil_append,Nat.reduceLT]|refine br ?_ ?_<;>intro h e<;>(try simp only[e,go_sem,q0z,q1f,Nat.reduceMul,q08,q02,List.append_assoc,List.cons_append,List.nil_append,Nat.reduceLT])<;>clear e|rw[q00 (by omega)]|refine sd ?_<;>try simp only[go_sem,q0z,q1f,Nat.reduceMul,q08,q02,List.append_assoc,List.cons_append,List.nil_append,Nat.reduceLT]|fail)
 refine q14 (c25 w.nets h3) [] 14 1 (by simp only[go_sem];first|done|simp) (by simp) (by rintro _ _ ⟨rfl,rfl⟩;simp) (by intro i hi;obtain rfl:i=0:=(by omega);simp only[go_sem,q08,q02,List.append_assoc,List.cons_append,List.nil_append,Nat.reduceLT]) ?_
 rintro _ _ ⟨rfl,rfl⟩
 simp only[go_sem,q08,q02,List.append_assoc,List.cons_append,List.nil_append,Nat.reduceLT]
 with_reducible repeat' (first|refine q4t (by repeat' first|exact q0q|refine q0g (by first|exact q51 (by decide)|kernel_rfl) ?_) ?_;try simp only[go_sem,q08,q02,List.append_assoc,List.cons_append,List.nil_append,Nat.reduceLT]|refine br ?_ ?_<;>intro h e<;>(try simp only[e,go_sem,q08,q02,List.append_assoc,List.cons_append,List.nil_append,Nat.reduceLT])<;>clear e|rw[q00 (by omega)]|refine sd ?_<;>try simp only[go_sem,q08,q02,List.append_assoc,List.cons_append,List.nil_append,Nat.reduceLT]|fail)
 refine q8o 4 200100002 (gs:=w.door.flows) (WV 0 w) [.arr 91 10 (w.convs.map Conv.row),.arr 132 3 (w.door.map.map Pair.row),.var 130 (frow 4 w.door.flows),.arr 54 7 (w.nets.map Pk.row)] [(0,100600),(1,200100000),(2,200100001),(3,101400)] rfl ?_ ⟨rfl,rfl⟩ (λc hc F f h' hf hh hj=>?_) ?_ (by simp[q0f,List.range_succ]) (λc hc=>?_)
 ·simp only[go_sem,q08,q02,List.append_assoc,List.cons_append,List.nil_append,Nat.reduceLT]
  intro F f h' hf hh
  simp only[WV,go_sem,hf,hh,Nat.reduceLT]
 ·rcases(show c=0∨c=1∨c=2∨c=3 by omega) with rfl|rfl|rfl|rfl<;>simp only[go_sem,q08,q02,List.append_assoc,List.cons_append,List.nil_append,Nat.reduceLT]
  exact qct (by rw[q0p,q0p]) λj v v' h1 h2=>q2r (λj hj'=>hj j hj') h1 h2
 ·repeat' first|exact q21 _ _ _|exact q0s _ _|refine q0n (.inl (by decide)) ?_
 ·rcases(show c=0∨c=1∨c=2∨c=3 by omega) with rfl|rfl|rfl|rfl<;>exact .inl (by decide)
end Go.Proofs.YtpppoklkijmeoaaGreatDoor.W
namespace Go.Proofs.YtpppoklkijmeoaaGreatDoor.W
open Go Go.RowKit Go.Proofs Go.Proofs.YtpppoklkijmeoaaGreatDoor.VL Go.Proofs.YtpppoklkijmeoaaGreatDoor.M
attribute [local go_sem] q1j q8i
def q54:Int→List Flw→List Flw
 | _,[]=>[]
 | k,f::fs=>qcq k f::q54 (flE k f) fs
def q4v:Int→List Flw→Int
 | k,[]=>k
 | k,f::fs=>q4v (flE k f) fs
theorem q19:∀(k:Int) (fs:List Flw),(q54 k fs).length=fs.length
 | _,[]=>rfl
 | k,f::fs=>by rw[q54,zC,q19,zC]
theorem qdu:∀(k:Int) (gs hs:List Flw),q54 k (gs++hs)=q54 k gs++q54 (q4v k gs) hs
 | _,[],_=>rfl
 | k,g::gs,hs=>by rw[List.cons_append,q54,q54,qdu,List.cons_append,q4v]
theorem qb2:∀(k:Int) (gs hs:List Flw),q4v k (gs++hs)=q4v (q4v k gs) hs
 | _,[],_=>rfl
 | k,g::gs,hs=>by rw[List.cons_append,q4v,qb2,q4v]
theorem q60:∀ {k:Int} {fs:List Flw},(∀f∈fs,ptB f)→k≤q4v k fs∧q4v k fs≤k+5000000*fs.length
 | k,[],_=>by simp[q4v]
 | k,f::fs,h=>by
   have h1:=h f (by simp)
   have h2:=q60 (k:=flE k f) (fs:=fs) λg hg=>h g (by simp[hg])
   rw[q4v,zC]
   unfold ptB at h1
   unfold flE at *
   omega
def mkW (k:Int) (w:M.World):M.World:=⟨mkS mkC 10 k w.convs.length,⟨mkS qa0 3 (k+10*w.convs.length) w.door.map.length,q54 (k+10*w.convs.length+3*w.door.map.length) w.door.flows⟩,mkS qbk 7 (q4v (k+10*w.convs.length+3*w.door.map.length) w.door.flows) w.nets.length⟩
def qc0 (k:Int) (w:M.World):Int:=q4v (k+10*w.convs.length+3*w.door.map.length) w.door.flows+7*w.nets.length
theorem qj7 {F:Nat→Prop} {h h':Nat→Hs} {b:Nat} {fs:List Flw} (hh:∀j,j<2*fs.length→h' (b+j)≠.fresh) {ty:Nat}:WkH F (λc=>c) h h' (.var ty (frow b fs)) (.var ty (frow b fs)):=⟨rfl,rfl,λ_ _ _ h1 h2=>q2r (λj hj=>⟨rfl,hh j hj⟩) h1 h2⟩
theorem q6y {F:Nat→Prop} {h h':Nat→Hs} {b:Nat} {fs:List Flw} (hh:∀j,j<2*fs.length→h' (b+j)≠.fresh):WkL (Wk1 F (λc=>c) h h') (frow b fs) (frow b fs):=qct rfl λ_ _ _ h1 h2=>q2r (λj hj=>⟨rfl,hh j hj⟩) h1 h2
theorem qir {rs:List RV} {post:V→List Hs→Prop} {l:List (Nat×V)} {m:List (Nat×Hs)} (k:Nat) {gs:List Flw} (res:V) (O:List Hs) {p:Nat} (hpk:p=k+2*gs.length) (hk:O.length=k) (hv:qgc ⟨q0e l,q01 m⟩ rs=some res) (hn:res.nl=true) (hp:post res (O++q32 gs))
 (hO:∀c,c<k→chH O c≠.fresh∧∀(F:Nat→Prop) h',(∀j,j<2*gs.length→h' (k+j)≠.fresh)→WkH F (λc=>c) (q01 m) h' (q01 m c) (chH O c)) (hfam:FamAt (q01 m) k gs):q6f rs p post .ret ⟨q0e l,q01 m⟩:=by
 have h1:∀c,c<k→chH (O++q32 gs) c=chH O c:=λc hc=>q7y (by omega)
 have h2:∀j,chH (O++q32 gs) (k+j)=chH (q32 gs) j:=λj=>by rw[q80 (by omega)];congr 1;omega
 have h3:∀j,j<2*gs.length→chH (O++q32 gs) (k+j)≠.fresh:=λj hj=>by rw[h2];intro e;have:=q3p hj;rw[e] at this;cases this
 refine⟨res,res,O++q32 gs,λc=>c,hv,hp,q8m hn,λc=>?_,λx y _ _ h=>h,λi hi=>⟨rfl, ?_⟩⟩
 ·show WkH (NoN (λc=>c) (chH (O++q32 gs))) (λc=>c) (q01 m) (chH (O++q32 gs)) (q01 m c) (chH (O++q32 gs) c)
  by_cases hc:c<k
  ·rw[h1 c hc]
   exact(hO c hc).2 _ _ h3
  ·obtain⟨j,rfl⟩:∃j,c=k+j:=⟨c - k,by omega⟩
   rw[h2]
   rcases q3x 0 gs j with ho|⟨q,g,hg,e⟩
   ·rw[q8w,q1q ho]
    cases q01 m (k+j)<;>trivial
   ·obtain⟨a1,a2⟩:=q3d hg
    obtain⟨b1,b2⟩:=hfam q g hg
    rw[zZ] at e
    rcases e with rfl|rfl
    ·rw[a1,b1];exact⟨rfl,rfl,rfl⟩
    ·rw[a2,←Nat.add_assoc,b2];exact⟨rfl,rfl,rfl⟩
 ·by_cases hc:i<k
  ·rw[h1 i hc];exact(hO i hc).1
  ·obtain⟨j,rfl⟩:∃j,i=k+j:=⟨i - k,by omega⟩
   exact h3 j (by omega)
theorem qnu {G:Glob} {p ty:Nat} {l1 l2:List (Nat×V)} {m1:List (Nat×Hs)} {gs:List Flw} (hp:p=1+2*gs.length) (ht:∀F h',h' 0≠.fresh→WkS (Wk F (λc=>c) (q01 m1) h') (q0e l1) l2) (h0:q01 m1 0=.var ty (frow 1 gs)) (hfam:FamAt (q01 m1) 1 gs) :
 St.le G p ⟨q0e l1,q01 m1⟩ ⟨q0e l2,q01 ((0,.var ty (frow 1 gs))::q2x 1 gs)⟩:=by
 have fa:FamAt (q01 ((0,Hs.var ty (frow 1 gs))::q2x 1 gs)) 1 gs:=q0n (.inl (by omega)) (q0s _ _)
 have e0:q01 ((0,Hs.var ty (frow 1 gs))::q2x 1 gs) 0=.var ty (frow 1 gs):=by simp[q01]
 refine LeR.le (f:=λc=>c) ⟨λd=>(ht _ _ (by show q01 ((0,Hs.var ty (frow 1 gs))::q2x 1 gs) 0≠.fresh;rw[e0];simp)).all (λv=>by cases v<;>trivial) d,λc=>?_,λx y _ _ h=>h,λi hi=>⟨rfl, ?_⟩⟩
 ·show WkH (NoN (λc=>c) (q01 ((0,Hs.var ty (frow 1 gs))::q2x 1 gs))) (λc=>c) (q01 m1) (q01 ((0,Hs.var ty (frow 1 gs))::q2x 1 gs)) (q01 m1 c) (q01 ((0,Hs.var ty (frow 1 gs))::q2x 1 gs) c)
  by_cases hc:c=0
  ·subst hc
   rw[h0,e0]
   exact qj7 λj hj=>fa.ne hj
  ·rw[q01,if_neg hc]
   rcases q3x 1 gs c with ho|⟨q,g,hg,e⟩
   ·rw[q1q ho]
    cases q01 m1 c<;>trivial
   ·obtain⟨a1,a2⟩:=q0s 1 gs q g hg
    obtain⟨b1,b2⟩:=hfam q g hg
    rcases e with rfl|rfl
    ·rw[a1,b1];exact⟨rfl,rfl,rfl⟩
    ·rw[a2,b2];exact⟨rfl,rfl,rfl⟩
 ·by_cases hc:i=0
  ·subst hc;show q01 ((0,Hs.var ty (frow 1 gs))::q2x 1 gs) 0≠.fresh;rw[e0];simp
  ·obtain⟨j,rfl⟩:∃j,i=1+j:=⟨i - 1,by omega⟩
   exact fa.ne (by omega)
section
variable {c ty L:Nat} {P Q:List V} {x0 x1 x2 x3 x4 x5 x6 x7 v:V}
theorem st0 (hP:P.length=L) (hv:V.one v=true):q6t 1 c L [v] (.var ty (P++x0::x1::x2::x3::x4::x5::x6::x7::Q))=some ([(c,.var ty (P++v::x1::x2::x3::x4::x5::x6::x7::Q))],[c]):=by
 rw[q3w _ _ _ _ _ _ (by simp[hv]) (by simp;omega)]
 subst hP
 have t:∀j,List.take (P.length+j) P=P:=λj=>List.take_of_length_le (by omega)
 have d:∀j,List.drop (P.length+j) P=[]:=λj=>List.drop_of_length_le (by omega)
 simp[q5k,List.take_append,List.drop_append,Nat.add_assoc,t,d,Nat.add_sub_cancel_left]
theorem la0 (hP:P.length=L):q7k 1 false c L (.var ty (P++x0::x1::x2::x3::x4::x5::x6::x7::Q))=some (x0,[c]):=by
 rw[q4h]
 subst hP
 simp[ld1,List.getElem?_append_right]
theorem st1 (hP:P.length=L) (hv:V.one v=true):q6t 1 c (L+1) [v] (.var ty (P++x0::x1::x2::x3::x4::x5::x6::x7::Q))=some ([(c,.var ty (P++x0::v::x2::x3::x4::x5::x6::x7::Q))],[c]):=by
 rw[q3w _ _ _ _ _ _ (by simp[hv]) (by simp;omega)]
 subst hP
 have t:∀j,List.take (P.length+j) P=P:=λj=>List.take_of_length_le (by omega)
 have d:∀j,List.drop (P.length+j) P=[]:=λj=>List.drop_of_length_le (by omega)
 simp[q5k,List.take_append,List.drop_append,Nat.add_assoc,t,d,Nat.add_sub_cancel_left]
theorem la1 (hP:P.length=L):q7k 1 false c (L+1) (.var ty (P++x0::x1::x2::x3::x4::x5::x6::x7::Q))=some (x1,[c]):=by
 rw[q4h]
 subst hP
 simp[ld1,List.getElem?_append_right]
theorem st2 (hP:P.length=L) (hv:V.one v=true):q6t 1 c (L+2) [v] (.var ty (P++x0::x1::x2::x3::x4::x5::x6::x7::Q))=some ([(c,.var ty (P++x0::x1::v::x3::x4::x5::x6::x7::Q))],[c]):=by
 rw[q3w _ _ _ _ _ _ (by simp[hv]) (by simp;omega)]
 subst hP
 have t:∀j,List.take (P.length+j) P=P:=λj=>List.take_of_length_le (by omega)
 have d:∀j,List.drop (P.length+j) P=[]:=λj=>List.drop_of_length_le (by omega)
 simp[q5k,List.take_append,List.drop_append,Nat.add_assoc,t,d,Nat.add_sub_cancel_left]
theorem la2 (hP:P.length=L):q7k 1 false c (L+2) (.var ty (P++x0::x1::x2::x3::x4::x5::x6::x7::Q))=some (x2,[c]):=by
 rw[q4h]
 subst hP
 simp[ld1,List.getElem?_append_right]
theorem st3 (hP:P.length=L) (hv:V.one v=true):q6t 1 c (L+3) [v] (.var ty (P++x0::x1::x2::x3::x4::x5::x6::x7::Q))=some ([(c,.var ty (P++x0::x1::x2::v::x4::x5::x6::x7::Q))],[c]):=by
 rw[q3w _ _ _ _ _ _ (by simp[hv]) (by simp;omega)]
 subst hP
 have t:∀j,List.take (P.length+j) P=P:=λj=>List.take_of_length_le (by omega)
 have d:∀j,List.drop (P.length+j) P=[]:=λj=>List.drop_of_length_le (by omega)
 simp[q5k,List.take_append,List.drop_append,Nat.add_assoc,t,d,Nat.add_sub_cancel_left]
theorem la3 (hP:P.length=L):q7k 1 false c (L+3) (.var ty (P++x0::x1::x2::x3::x4::x5::x6::x7::Q))=some (x3,[c]):=by
 rw[q4h]
 subst hP
 simp[ld1,List.getElem?_append_right]
theorem st4 (hP:P.length=L) (hv:V.one v=true):q6t 1 c (L+4) [v] (.var ty (P++x0::x1::x2::x3::x4::x5::x6::x7::Q))=some ([(c,.var ty (P++x0::x1::x2::x3::v::x5::x6::x7::Q))],[c]):=by
 rw[q3w _ _ _ _ _ _ (by simp[hv]) (by simp;omega)]
 subst hP
 have t:∀j,List.take (P.length+j) P=P:=λj=>List.take_of_length_le (by omega)
 have d:∀j,List.drop (P.length+j) P=[]:=λj=>List.drop_of_length_le (by omega)
 simp[q5k,List.take_append,List.drop_append,Nat.add_assoc,t,d,Nat.add_sub_cancel_left]
theorem la4 (hP:P.length=L):q7k 1 false c (L+4) (.var ty (P++x0::x1::x2::x3::x4::x5::x6::x7::Q))=some (x4,[c]):=by
 rw[q4h]
 subst hP
 simp[ld1,List.getElem?_append_right]
theorem st5 (hP:P.length=L) (hv:V.one v=true):q6t 1 c (L+5) [v] (.var ty (P++x0::x1::x2::x3::x4::x5::x6::x7::Q))=some ([(c,.var ty (P++x0::x1::x2::x3::x4::v::x6::x7::Q))],[c]):=by
 rw[q3w _ _ _ _ _ _ (by simp[hv]) (by simp;omega)]
 subst hP
 have t:∀j,List.take (P.length+j) P=P:=λj=>List.take_of_length_le (by omega)
 have d:∀j,List.drop (P.length+j) P=[]:=λj=>List.drop_of_length_le (by omega)
 simp[q5k,List.take_append,List.drop_append,Nat.add_assoc,t,d,Nat.add_sub_cancel_left]
theorem la5 (hP:P.length=L):q7k 1 false c (L+5) (.var ty (P++x0::x1::x2::x3::x4::x5::x6::x7::Q))=some (x5,[c]):=by
 rw[q4h]
 subst hP
 simp[ld1,List.getElem?_append_right]
theorem st6 (hP:P.length=L) (hv:V.one v=true):q6t 1 c (L+6) [v] (.var ty (P++x0::x1::x2::x3::x4::x5::x6::x7::Q))=some ([(c,.var ty (P++x0::x1::x2::x3::x4::x5::v::x7::Q))],[c]):=by
 rw[q3w _ _ _ _ _ _ (by simp[hv]) (by simp;omega)]
 subst hP
 have t:∀j,List.take (P.length+j) P=P:=λj=>List.take_of_length_le (by omega)
 have d:∀j,List.drop (P.length+j) P=[]:=λj=>List.drop_of_length_le (by omega)
 simp[q5k,List.take_append,List.drop_append,Nat.add_assoc,t,d,Nat.add_sub_cancel_left]
theorem la6 (hP:P.length=L):q7k 1 false c (L+6) (.var ty (P++x0::x1::x2::x3::x4::x5::x6::x7::Q))=some (x6,[c]):=by
 rw[q4h]
 subst hP
 simp[ld1,List.getElem?_append_right]
theorem st7 (hP:P.length=L) (hv:V.one v=true):q6t 1 c (L+7) [v] (.var ty (P++x0::x1::x2::x3::x4::x5::x6::x7::Q))=some ([(c,.var ty (P++x0::x1::x2::x3::x4::x5::x6::v::Q))],[c]):=by
 rw[q3w _ _ _ _ _ _ (by simp[hv]) (by simp;omega)]
 subst hP
 have t:∀j,List.take (P.length+j) P=P:=λj=>List.take_of_length_le (by omega)
 have d:∀j,List.drop (P.length+j) P=[]:=λj=>List.drop_of_length_le (by omega)
 simp[q5k,List.take_append,List.drop_append,Nat.add_assoc,t,d,Nat.add_sub_cancel_left]
theorem la7 (hP:P.length=L):q7k 1 false c (L+7) (.var ty (P++x0::x1::x2::x3::x4::x5::x6::x7::Q))=some (x7,[c]):=by
 rw[q4h]
 subst hP
 simp[ld1,List.getElem?_append_right]
end
set_option maxHeartbeats 4000000 in
theorem d74 (fs:List Flw) (k:Int) (hl:fs.length≤1048576) (hk:0≤k∧k≤100000000000) (hb:∀f∈fs,ptB f):FnP Tryz.prog G 74 (1+2*fs.length) ([.var 130 (frow 1 fs)]++q32 fs) [.view 0 fs.length fs.length,.int .i64 k] (λr o=>r=.int .i64 (q4v k fs)∧o=[.var 130 (frow 1 (q54 k fs))]++q32 (q54 k fs)):=by
 refine mP dg74 Tryz.ntmps74 ⟨_,_,rfl,rfl⟩ ?_
 simp only[ic74,go_sem,q35]
 with_reducible repeat' (first|refine br ?_ ?_<;>intro h e<;>(try simp only[e,go_sem])<;>clear e|rw[q00 (by omega)]|refine sd ?_<;>try simp only[go_sem]|fail)
 refine q0d (λi:Nat=>⟨q0e [(0,.view 0 fs.length fs.length),(1,.int .i64 (q4v k (fs.take i))),(5,.int .i64 (i:Int))],q01 ((0,.var 130 (frow 1 (q54 k (fs.take i)++fs.drop i)))::q2x 1 (q54 k (fs.take i)++fs.drop i))⟩) (λi=>fs.length - i) (λi=>i≤fs.length) 0
  (qnu (by simp[q54]) (λF h' h0=>by simp only[go_sem,List.take_zero,q4v];first|done|exact h0|simp[h0]) (by simp only[go_sem,List.take_zero,q54,List.nil_append,List.drop_zero]) (by simp only[List.take_zero,q54,List.nil_append,List.drop_zero];exact q0n (.inl (by omega)) (q0s _ _))) (Nat.zero_le _) ?_
 intro i hi
 by_cases h:(i:Int)<fs.length
 ·have hil:i<fs.length:=by omega
  have e0:fs.take (i+1)=fs.take i++[fs[i]]:=by rw[List.take_add_one];simp[hil]
  obtain⟨ms,hms⟩:∃ms,q54 k (fs.take i)=ms:=⟨_,rfl⟩
  have hml:ms.length=i:=by rw[←hms,q19];simp;omega
  obtain⟨kk,hkk⟩:∃kk,q4v k (fs.take i)=kk:=⟨_,rfl⟩
  have hkb:0≤kk∧kk≤10000000000000:=by
   have:=q60 (k:=k) (fs:=fs.take i) λf hf=>hb f (List.mem_of_mem_take hf)
   simp only[List.length_take] at this
   omega
  obtain⟨R,hR⟩:∃R,fs.drop (i+1)=R:=⟨_,rfl⟩
  have hRl:R.length=fs.length - (i+1):=by rw[←hR];simp
  have hbf:=hb _ (List.getElem_mem hil)
  have e2:q54 k (fs.take (i+1))=ms++[qcq kk fs[i]]:=by rw[e0,qdu,hms,hkk];rfl
  have e3:q4v k (fs.take (i+1))=flE kk fs[i]:=by rw[e0,qb2,hkk];rfl
  rw[List.drop_eq_getElem_cons hil,hR]
  generalize fs[i]=f at *
  obtain⟨h1,h2⟩:=hbf
  have ef:∀g:Flw,frow 1 (ms++g::R)=frow 1 ms++(q7j (1+2*i) g++frow (1+2*i+2) R):=λg=>by rw[qab,hml,frow]
  obtain⟨x,hx⟩:∃x,1+2*i=x:=⟨_,rfl⟩
  obtain⟨P,hP⟩:∃P,frow 1 ms=P:=⟨_,rfl⟩
  obtain⟨Q,hQ⟩:∃Q,frow (x+2) R=Q:=⟨_,rfl⟩
  have hPl:P.length=i*8:=by rw[←hP,q0p,hml];omega
  have hQl:Q.length=8*R.length:=by rw[←hQ,q0p]
  have ex:∀(a b c d e f g h:V),(P++a::b::c::d::e::f::g::h::Q).length=fs.length*8:=λa b c d e f g h=>by simp[hPl,hQl,hRl];omega
  have em:(ms++f::R).length=fs.length:=by simp[hml,hRl];omega
  have gx:ms.length=i:=hml
  have fi:=qch (b:=1) (l:=[]) (fs:=ms++f::R) (k:=i) (f:=f) (by rw[List.getElem?_append_right (by omega),hml];simp)
  rw[List.append_nil,hx] at fi
  obtain⟨u1,u2⟩:=fi
  have z1:∀s l,q01 ((0,s)::l) x=q01 l x:=λs l=>by rw[q01,if_neg (by omega)]
  have z2:∀s l,q01 ((0,s)::l) (x+1)=q01 l (x+1):=λs l=>by rw[q01,if_neg (by omega)]
  have z3:∀s l,q01 ((x,s)::l) 0=q01 l 0:=λs l=>by rw[q01,if_neg (by omega)]
  have z4:∀s l,q01 ((x,s)::l) (x+1)=q01 l (x+1):=λs l=>by rw[q01,if_neg (by omega)]
  have z5:∀s l,q01 ((x+1,s)::l) 0=q01 l 0:=λs l=>by rw[q01,if_neg (by omega)]
  have z6:∀s l,q01 ((x,s)::l) 100100000=q01 l 100100000:=λs l=>by rw[q01,if_neg (by omega)]
  have z7:q01 (q2x 1 (ms++f::R)) 100100000=.fresh:=q1q (.inr (by omega))
  obtain⟨q,hq⟩:∃q,kk+5+2*(f.up.parts.length:Int)=q:=⟨_,rfl⟩
  have hq1:kk+6+2*(f.up.parts.length:Int)=q+1:=by omega
  have hq2:q+1+2*(f.down.parts.length:Int)=flE kk f:=by simp only[flE];omega
  have w1:IntKind.i64.wrap (kk+1)=kk+1:=q00 (by omega)
  have w2:IntKind.i64.wrap (kk+2)=kk+2:=q00 (by omega)
  have w3:IntKind.i64.wrap (kk+3)=kk+3:=q00 (by omega)
  have w4:IntKind.i64.wrap (kk+4)=kk+4:=q00 (by omega)
  have w5:IntKind.i64.wrap (kk+5)=kk+5:=q00 (by omega)
  have wq:IntKind.i64.wrap (q+1)=q+1:=q00 (by omega)
  have a3:i*8+2+1=i*8+3:=rfl
  have a5:i*8+4+1=i*8+5:=rfl
  have a7:i*8+6+1=i*8+7:=rfl
  simp only[hms,hkk,ef,hx,hP,hQ,q7j]
  simp only[eq_true h,ex,k11,k21,k31,k41,w1,w2,w3,w4,w5,a3,a5,a7,st0 hPl,la0 hPl,st1 hPl,la1 hPl,st2 hPl,la2 hPl,st3 hPl,la3 hPl,st4 hPl,la4 hPl,st5 hPl,la5 hPl,st6 hPl,la6 hPl,st7 hPl,la7 hPl,go_sem]
  with_reducible repeat' (first|rw[q00 (by omega)];try simp only[go_sem,ex,k11,k21,k31,k41,w1,w2,w3,w4,w5,a3,a5,a7,st0 hPl,la0 hPl,st1 hPl,la1 hPl,st2 hPl,la2 hPl,st3 hPl,la3 hPl,st4 hPl,la4 hPl,st5 hPl,la5 hPl,st6 hPl,la6 hPl,st7 hPl,la7 hPl]|refine br ?_ ?_<;>intro h e<;>(try simp only[e,go_sem,ex,k11,k21,k31,k41,w1,w2,w3,w4,w5,a3,a5,a7,st0 hPl,la0 hPl,st1 hPl,la1 hPl,st2 hPl,la2 hPl,st3 hPl,la3 hPl,st4 hPl,la4 hPl,st5 hPl,la5 hPl,st6 hPl,la6 hPl,st7 hPl,la7 hPl])<;>clear e|refine sd ?_<;>try simp only[go_sem,ex,k11,k21,k31,k41,w1,w2,w3,w4,w5,a3,a5,a7,st0 hPl,la0 hPl,st1 hPl,la1 hPl,st2 hPl,la2 hPl,st3 hPl,la3 hPl,st4 hPl,la4 hPl,st5 hPl,la5 hPl,st6 hPl,la6 hPl,st7 hPl,la7 hPl]|(first|refine cr (c72 _ (by omega)) ?_)<;>try simp only[go_sem,ex,k11,k21,k31,k41,w1,w2,w3,w4,w5,a3,a5,a7,st0 hPl,la0 hPl,st1 hPl,la1 hPl,st2 hPl,la2 hPl,st3 hPl,la3 hPl,st4 hPl,la4 hPl,st5 hPl,la5 hPl,st6 hPl,la6 hPl,st7 hPl,la7 hPl]|fail)
  refine q1k (c118 f.up.parts (kk+5) h1 (by omega)) [x] [] true 1000000 1 (by simp only[go_sem];first|done|simp) (by simp only[z1,u1,go_sem];first|done|simp) (by simp) (by simp) (by simp) ?_ ?_ ?_
  ·rintro _ _ ⟨rfl,rfl⟩
   exact⟨by simp,by simp,.inl rfl,λi hi=>by obtain rfl:i=0:=(by omega);(simp[chH,q0h,q0o];try omega)⟩
  ·intro j hj;obtain rfl:j=0:=(by omega);simp only[q3u,Nat.reduceMul,z6,z7,go_sem]
  rintro _ _ ⟨rfl,rfl⟩
  simp only[hq,z3,ex,a3,a5,a7,wq,st0 hPl,la0 hPl,st1 hPl,la1 hPl,st2 hPl,la2 hPl,st3 hPl,la3 hPl,st4 hPl,la4 hPl,st5 hPl,la5 hPl,st6 hPl,la6 hPl,st7 hPl,la7 hPl,go_sem]
  with_reducible repeat' (first|rw[q00 (by omega)];try simp only[go_sem,hq,z3,ex,a3,a5,a7,wq,st0 hPl,la0 hPl,st1 hPl,la1 hPl,st2 hPl,la2 hPl,st3 hPl,la3 hPl,st4 hPl,la4 hPl,st5 hPl,la5 hPl,st6 hPl,la6 hPl,st7 hPl,la7 hPl]|refine br ?_ ?_<;>intro h e<;>(try simp only[e,go_sem,hq,z3,ex,a3,a5,a7,wq,st0 hPl,la0 hPl,st1 hPl,la1 hPl,st2 hPl,la2 hPl,st3 hPl,la3 hPl,st4 hPl,la4 hPl,st5 hPl,la5 hPl,st6 hPl,la6 hPl,st7 hPl,la7 hPl])<;>clear e|refine sd ?_<;>try simp only[go_sem,hq,z3,ex,a3,a5,a7,wq,st0 hPl,la0 hPl,st1 hPl,la1 hPl,st2 hPl,la2 hPl,st3 hPl,la3 hPl,st4 hPl,la4 hPl,st5 hPl,la5 hPl,st6 hPl,la6 hPl,st7 hPl,la7 hPl]|(first|refine cr (c72 _ (by omega)) ?_)<;>try simp only[go_sem,hq,z3,ex,a3,a5,a7,wq,st0 hPl,la0 hPl,st1 hPl,la1 hPl,st2 hPl,la2 hPl,st3 hPl,la3 hPl,st4 hPl,la4 hPl,st5 hPl,la5 hPl,st6 hPl,la6 hPl,st7 hPl,la7 hPl]|fail)
  refine q1k (c118 f.down.parts (q+1) h2 (by omega)) [x+1] [] true 1000000 1 (by simp only[go_sem];first|done|simp) (by simp only[z1,z2,z4,u2,go_sem];first|done|simp) (by simp) (by simp) (by simp) ?_ ?_ ?_
  ·rintro _ _ ⟨rfl,rfl⟩
   exact⟨by simp,by simp,.inl rfl,λi hi=>by obtain rfl:i=0:=(by omega);(simp[chH,q0h,q0o];try omega)⟩
  ·intro j hj;obtain rfl:j=0:=(by omega);simp only[q3u,Nat.reduceMul,z6,z7,go_sem]
  rintro _ _ ⟨rfl,rfl⟩
  simp only[hq2,z3,z5,go_sem]
  with_reducible repeat' (first|rw[q00 (by omega)];try simp only[go_sem,hq2,z3,z5]|refine br ?_ ?_<;>intro h e<;>(try simp only[e,go_sem,hq2,z3,z5])<;>clear e|refine sd ?_<;>try simp only[go_sem,hq2,z3,z5]|fail)
  refine⟨i+1,by omega,by omega, ?_⟩
  rw[e2,e3,hR,List.append_assoc,List.cons_append,List.nil_append]
  have er:frow 1 (ms++qcq kk f::R)=P++.int .i64 kk::.int .i64 (kk+1)::.int .i64 (kk+2)::.int .i64 (kk+3)::.str (mtx (kk+4))::.own x f.up.parts.length::.str (mtx q)::.own (x+1) f.down.parts.length::Q:=by
   rw[ef,hx,hP,hQ]
   simp only[q7j,qcq,q0o,hq,List.cons_append,List.nil_append]
  refine qnu (by simp[hml,hRl];omega) (λF h' h0=>?_) ?_ (λj g hg=>?_)
  ·simp only[go_sem]
   first|done|exact h0|simp[h0]
  ·simp only[z3,z5,er,go_sem]
  ·by_cases hj:j=i
   ·subst hj
    have:g=qcq kk f:=by
     rw[List.getElem?_append_right (by omega),hml] at hg
     simpa using hg.symm
    subst this
    rw[hx]
    refine⟨?_, ?_⟩
    ·rw[q01,if_neg (by omega),z1,q01,if_pos rfl]
     simp[qcq]
    ·rw[q01,if_pos rfl]
     simp[qcq,hq1]
   ·have hg':(ms++f::R)[j]?=some g:=by
     by_cases hjl:j<i
     ·rw[List.getElem?_append_left (by omega)] at hg ⊢;exact hg
     ·rw[List.getElem?_append_right (by omega)] at hg ⊢
      obtain⟨d,hd⟩:∃d,j - ms.length=d+1:=⟨j - ms.length - 1,by omega⟩
      rw[hd,List.getElem?_cons_succ] at hg ⊢
      exact hg
    obtain⟨y1,y2⟩:=q0s 1 (ms++f::R) j g hg'
    refine⟨?_, ?_⟩
    ·repeat rw[q01,if_neg (by omega)]
     exact y1
    ·repeat rw[q01,if_neg (by omega)]
     exact y2
 ·simp only[eq_false h,go_sem]
  have:i=fs.length:=by omega
  subst this
  simp only[List.take_length,List.drop_length,List.append_nil]
  with_reducible repeat' (first|refine br ?_ ?_<;>intro h e<;>(try simp only[e,go_sem])<;>clear e|rw[q00 (by omega)]|refine sd ?_<;>try simp only[go_sem]|fail)
  refine qir 1 (gs:=q54 k fs) (.int .i64 (q4v k fs)) [.var 130 (frow 1 (q54 k fs))] (by rw[q19]) rfl (by simp only[go_sem]) rfl ⟨rfl,rfl⟩ (λc hc=>?_) (q0n (.inl (by omega)) (q0s _ _))
  obtain rfl:c=0:=by omega
  exact⟨by simp[chH],λF h' hh=>by simp only[go_sem];exact q6y hh⟩
end Go.Proofs.YtpppoklkijmeoaaGreatDoor.W
namespace Go.Proofs.YtpppoklkijmeoaaGreatDoor.W
open Go Go.RowKit Go.Proofs Go.Proofs.YtpppoklkijmeoaaGreatDoor.VL Go.Proofs.YtpppoklkijmeoaaGreatDoor.M Go.ChangeShapes Go.WideShapes
inductive Ck where
 | i|s|p
 deriving DecidableEq
def qyc (l:List Part):Prop:=(l.length:Int)≤9223372036854775807∧∀x∈l,(x.text.length:Int)≤9223372036854775807
def qnc (w:Go.World):Ck→Value→Prop
 | .i,v=>∃z,v=.int .i64 z
 | .s,v=>∃t:B,v=.string (VL.mkStr t)∧(t.length:Int)≤9223372036854775807
 | .p,v=>∃l:List Part,Imm w noO (.sl 2 (l.map Part.row)) v∧qyc l
def qis (P:Program) (pt:TypeId):Nat→TypeId→Option (List Ck)
 | 0,_=>none
 | n+1,t=>if t=pt then some [.p] else match P.underlying t with
   | some (.int .i64)=>some [.i]
   | some .string=>some [.s]
   | some (.struct fs)=>q9i (qis P pt n) P 0 fs.toList
   | _=>none
section
variable {H:Type} {enc:TypeId×Value→H} {P:Program} {w:Go.World} {base:Nat} {sp:Nat→Bool} {held:Bool}
theorem q9g {pt e:TypeId} (hpt:P.underlying pt=some (.slice e)) (hp:∀fuel v x,DataW.trod enc P w base sp held fuel pt [v]=some x→qnc w .p v):∀(n fuel:Nat) (t:TypeId) (cs:List Value) x (ks:List Ck),DataW.trod enc P w base sp held fuel t cs=some x→qis P pt n t=some ks→GoodK (qnc w) ks cs
 | 0,_,_,_,_,_,_,h=>by simp[qis] at h
 | n+1,fuel,t,cs,x,ks,hx,h=>by
   unfold qis at h
   split at h
   ·rename_i htp
    subst htp
    cases h
    obtain⟨v,rfl⟩:∃v,cs=[v]:=by
     rcases Go.Deep.open_slice hpt hx with⟨h,_⟩|⟨_,_,_,_,_,_,_,h,_⟩<;>exact⟨_,h⟩
    intro j k hj
    match j with
    | 0=>cases hj;exact⟨_,rfl,hp _ _ _ hx⟩
    | j+1=>simp at hj
   split at h
   ·rename_i ht
    cases h
    obtain⟨z,rfl,_⟩:=DataW.trod_int ht hx
    intro j k hj
    match j with
    | 0=>cases hj;exact⟨_,rfl,z,rfl⟩
    | j+1=>simp at hj
   ·rename_i ht
    cases h
    obtain⟨s,rfl,_,hs⟩:=DataW.trod_string ht hx
    intro j k hj
    match j with
    | 0 =>
      cases hj
      refine⟨_,rfl,s.data.toList,by rw[VL.mkStr_data], ?_⟩
      have hx:maxLen=9223372036854775807:=rfl
      have:s.data.toList.length=s.size:=rfl
      omega
    | j+1=>simp at hj
   ·rename_i fs ht
    obtain⟨xs,m,_,rfl,_,hxl,hf⟩:=DataW.trod_struct ht hx
    intro j k hj
    have:=q5t (ok:=qnc w) (P:=P) (g:=qis P pt n) (R:=λt cs=>∃x,DataW.trod enc P w base sp held m t cs=some x) (λt cs ks ⟨x,hx⟩ hk=>q9g hpt hp n m t cs x ks hx hk) (cs:=cs) fs.toList 0 ks (λf hf'=>by
     obtain⟨i,hi⟩:=List.getElem?_of_mem hf'
     have hi':fs[i]?=some f:=by simpa using hi
     have g:=hf i f hi'
     have hlt:i<fs.size:=(Array.getElem?_eq_some_iff.1 hi').1
     rw[zE (by omega)] at g
     exact⟨_,g⟩) h j k hj
    simpa using this
   ·cases h
end
theorem ci {w:Go.World} {ks:List Ck} {cs:List Value} (h:GoodK (qnc w) ks cs) (j:Nat) (hj:ks[j]?=some .i):∃z,cs[j]?=some (.int .i64 z):=by
 obtain⟨v,h1,z,rfl⟩:=h j .i hj
 exact⟨z,h1⟩
theorem cs {w:Go.World} {ks:List Ck} {cs:List Value} (h:GoodK (qnc w) ks cs) (j:Nat) (hj:ks[j]?=some .s):∃t:B,cs[j]?=some (.string (VL.mkStr t))∧(t.length:Int)≤9223372036854775807:=by
 obtain⟨v,h1,t,rfl,ht⟩:=h j .s hj
 exact⟨t,h1,ht⟩
theorem cp {w:Go.World} {ks:List Ck} {cs:List Value} (h:GoodK (qnc w) ks cs) (j:Nat) (hj:ks[j]?=some .p):∃(l:List Part) (v:Value),cs[j]?=some v∧Imm w noO (.sl 2 (l.map Part.row)) v∧qyc l:=by
 obtain⟨v,h1,l,h2,h3⟩:=h j .p hj
 exact⟨l,v,h1,h2,h3⟩
theorem qqb {w:Go.World} (cs:List Value) (h:Good [false,true] cs):∃a:Part,(a.text.length:Int)≤9223372036854775807∧∀(j:Nat) v,(Part.row a)[j]?=some v→∃u,cs[j]?=some u∧Imm w noO v u:=by
 obtain⟨z0,h0⟩:=gi h 0 rfl
 obtain⟨s1,h1,l1⟩:=gs h 1 rfl
 refine⟨⟨z0,s1⟩,l1,λj v hj=>?_⟩
 match j,hj with
 | 0,hj=>cases hj;exact⟨_,h0,Imm.int _ _⟩
 | 1,hj=>cases hj;exact⟨_,h1,Imm.str _⟩
 | j+2,hj=>exact absurd (List.getElem?_eq_some_iff.1 hj).1 (by simp only[Part.row,zC,zN];omega)
theorem qr0 {w:Go.World} (cs:List Value) (h:Good [false,false,false] cs):∃a:Pair,True∧∀(j:Nat) v,(Pair.row a)[j]?=some v→∃u,cs[j]?=some u∧Imm w noO v u:=by
 obtain⟨z0,h0⟩:=gi h 0 rfl
 obtain⟨z1,h1⟩:=gi h 1 rfl
 obtain⟨z2,h2⟩:=gi h 2 rfl
 refine⟨⟨z0,⟨z1,z2⟩⟩,trivial,λj v hj=>?_⟩
 match j,hj with
 | 0,hj=>cases hj;exact⟨_,h0,Imm.int _ _⟩
 | 1,hj=>cases hj;exact⟨_,h1,Imm.int _ _⟩
 | 2,hj=>cases hj;exact⟨_,h2,Imm.int _ _⟩
 | j+3,hj=>exact absurd (List.getElem?_eq_some_iff.1 hj).1 (by simp only[Pair.row,zC,zN];omega)
theorem qz8 {w:Go.World} (cs:List Value) (h:Good [false,false,false,false,false,false,true] cs):∃a:Pk,(a.text.length:Int)≤9223372036854775807∧∀(j:Nat) v,(Pk.row a)[j]?=some v→∃u,cs[j]?=some u∧Imm w noO v u:=by
 obtain⟨z0,h0⟩:=gi h 0 rfl
 obtain⟨z1,h1⟩:=gi h 1 rfl
 obtain⟨z2,h2⟩:=gi h 2 rfl
 obtain⟨z3,h3⟩:=gi h 3 rfl
 obtain⟨z4,h4⟩:=gi h 4 rfl
 obtain⟨z5,h5⟩:=gi h 5 rfl
 obtain⟨s6,h6,l6⟩:=gs h 6 rfl
 refine⟨⟨z0,⟨z1,z2⟩,⟨z3,z4⟩,z5,s6⟩,l6,λj v hj=>?_⟩
 match j,hj with
 | 0,hj=>cases hj;exact⟨_,h0,Imm.int _ _⟩
 | 1,hj=>cases hj;exact⟨_,h1,Imm.int _ _⟩
 | 2,hj=>cases hj;exact⟨_,h2,Imm.int _ _⟩
 | 3,hj=>cases hj;exact⟨_,h3,Imm.int _ _⟩
 | 4,hj=>cases hj;exact⟨_,h4,Imm.int _ _⟩
 | 5,hj=>cases hj;exact⟨_,h5,Imm.int _ _⟩
 | 6,hj=>cases hj;exact⟨_,h6,Imm.str _⟩
 | j+7,hj=>exact absurd (List.getElem?_eq_some_iff.1 hj).1 (by simp only[Pk.row,zC,zN];omega)
def qe0 (f:Flw):Prop:=((f.up.inn.length:Int)≤9223372036854775807∧qyc f.up.parts)∧(f.down.inn.length:Int)≤9223372036854775807∧qyc f.down.parts
theorem qrc {w:Go.World} (cs':List Value) (h:GoodK (qnc w) [.i,.i,.i,.i,.s,.p,.s,.p] cs'):∃a:Flw,qe0 a∧∀(j:Nat) v,(Flw.row a)[j]?=some v→∃u,cs'[j]?=some u∧Imm w noO v u:=by
 obtain⟨z0,h0⟩:=ci h 0 rfl
 obtain⟨z1,h1⟩:=ci h 1 rfl
 obtain⟨z2,h2⟩:=ci h 2 rfl
 obtain⟨z3,h3⟩:=ci h 3 rfl
 obtain⟨s4,h4,l4⟩:=cs h 4 rfl
 obtain⟨p5,v5,h5,i5,l5⟩:=cp h 5 rfl
 obtain⟨s6,h6,l6⟩:=cs h 6 rfl
 obtain⟨p7,v7,h7,i7,l7⟩:=cp h 7 rfl
 refine⟨⟨⟨z0,z1⟩,⟨z2,z3⟩,⟨s4,p5⟩,⟨s6,p7⟩⟩,⟨⟨l4,l5⟩,l6,l7⟩,λj v hj=>?_⟩
 match j,hj with
 | 0,hj=>cases hj;exact⟨_,h0,Imm.int _ _⟩
 | 1,hj=>cases hj;exact⟨_,h1,Imm.int _ _⟩
 | 2,hj=>cases hj;exact⟨_,h2,Imm.int _ _⟩
 | 3,hj=>cases hj;exact⟨_,h3,Imm.int _ _⟩
 | 4,hj=>cases hj;exact⟨_,h4,Imm.str _⟩
 | 5,hj=>cases hj;exact⟨_,h5,i5⟩
 | 6,hj=>cases hj;exact⟨_,h6,Imm.str _⟩
 | 7,hj=>cases hj;exact⟨_,h7,i7⟩
 | j+8,hj=>exact absurd (List.getElem?_eq_some_iff.1 hj).1 (by simp only[Flw.row,zC,zN];omega)
def qry (w:M.World):Prop:=((w.convs.length:Int)≤9223372036854775807∧∀c∈w.convs,qzn c)∧(w.door.map.length:Int)≤9223372036854775807∧((w.door.flows.length:Int)≤9223372036854775807∧∀f∈w.door.flows,qe0 f)∧(w.nets.length:Int)≤9223372036854775807∧∀p∈w.nets,(p.text.length:Int)≤9223372036854775807
section
variable {H:Type} {enc:TypeId×Value→H} {W:Go.World} {fuel:Nat} {v:Value} {x:DataW H×List MemPlace}
theorem qfr (h:DataW.trod enc Tryz.prog W 0 (λ_=>true) true fuel 22 [v]=some x):∃l:List Conv,Imm W noO (.sl 10 (l.map Conv.row)) v∧(l.length:Int)≤9223372036854775807∧∀a∈l,qzn a :=
 q41 (ok:=q9b) Conv.row Tryz.underlying22 (λfuel cs x h=>q49 8 fuel _ cs x [false,false,false,false,true,true,false,false,true,true] h (by kernel_rfl)) (by kernel_rfl) (by decide) (λ_=>rfl) qrp h
theorem qfq (h:DataW.trod enc Tryz.prog W 0 (λ_=>true) true fuel 23 [v]=some x):∃l:List Pair,Imm W noO (.sl 3 (l.map Pair.row)) v∧(l.length:Int)≤9223372036854775807∧∀a∈l,True :=
 q41 (ok:=q9b) Pair.row Tryz.underlying23 (λfuel cs x h=>q49 8 fuel _ cs x [false,false,false] h (by kernel_rfl)) (by kernel_rfl) (by decide) (λ_=>rfl) qr0 h
theorem qgm (h:DataW.trod enc Tryz.prog W 0 (λ_=>true) true fuel 27 [v]=some x):∃l:List Pk,Imm W noO (.sl 7 (l.map Pk.row)) v∧(l.length:Int)≤9223372036854775807∧∀a∈l,(a.text.length:Int)≤9223372036854775807 :=
 q41 (ok:=q9b) Pk.row Tryz.underlying27 (λfuel cs x h=>q49 8 fuel _ cs x [false,false,false,false,false,false,true] h (by kernel_rfl)) (by kernel_rfl) (by decide) (λ_=>rfl) qz8 h
theorem qf4 (h:DataW.trod enc Tryz.prog W 0 (λ_=>true) true fuel 118 [v]=some x):∃l:List Part,Imm W noO (.sl 2 (l.map Part.row)) v∧(l.length:Int)≤9223372036854775807∧∀a∈l,(a.text.length:Int)≤9223372036854775807 :=
 q41 (ok:=q9b) Part.row Tryz.underlying118 (λfuel cs x h=>q49 8 fuel _ cs x [false,true] h (by kernel_rfl)) (by kernel_rfl) (by decide) (λ_=>rfl) qqb h
theorem qfo (h:DataW.trod enc Tryz.prog W 0 (λ_=>true) true fuel 24 [v]=some x):∃l:List Flw,Imm W noO (.sl 8 (l.map Flw.row)) v∧(l.length:Int)≤9223372036854775807∧∀a∈l,qe0 a :=
 q41 (ok:=qnc W) Flw.row Tryz.underlying24 (λfuel cs x h=>q9g Tryz.underlying118 (λfuel v x h=>let ⟨l,a,b,c⟩:=qf4 h;⟨l,a,b,c⟩) 8 fuel _ cs x [.i,.i,.i,.i,.s,.p,.s,.p] h (by kernel_rfl)) (by kernel_rfl) (by decide) (λ_=>rfl) qrc h
end
theorem q9q {H:Type} {enc:TypeId×Value→H} {W:Go.World} {v:Value} {d:DataW H} {ps:List MemPlace} (h:DataW.Trod enc Tryz.prog W 0 (λ_=>true) true 29 v d ps) (hv:∃us,v=.agg us):∃w:M.World,Den W noO noρ noH (.agg [.sl 10 (w.convs.map Conv.row),.sl 3 (w.door.map.map Pair.row),.sl 8 (w.door.flows.map Flw.row),.sl 7 (w.nets.map Pk.row)]) v∧qry w:=by
 obtain⟨us,rfl⟩:=hv
 obtain⟨fuel,hf⟩:=h
 have hf:DataW.trod enc Tryz.prog W 0 (λ_=>true) true fuel 29 us.toList=some (d,ps):=hf
 obtain⟨xs,n,_,_,hcl,hxl,hfs⟩:=DataW.trod_struct Tryz.underlying29 hf
 have e4:us.toList.length=4:=by rw[hcl];kernel_rfl
 obtain⟨c0,c1,c2,c3,hus⟩:∃c0 c1 c2 c3,us.toList=[c0,c1,c2,c3]:=by
  match hh:us.toList,e4 with
  | [c0,c1,c2,c3],_=>exact⟨_,_,_,_,rfl⟩
 rw[hus] at hfs
 have xl:xs.length=3:=hxl
 have k1:Tryz.prog.cellsOf 22=1:=by kernel_rfl
 have k2:Tryz.prog.cellsOf 26=2:=by kernel_rfl
 have k3:Tryz.prog.cellsOf 27=1:=by kernel_rfl
 have k4:Tryz.prog.cellsOf 23=1:=by kernel_rfl
 have k5:Tryz.prog.cellsOf 24=1:=by kernel_rfl
 have f0:=hfs 0 { name:= "Convs",type:=22,offset:=0,embedded:=false,tag:= "",pkgPath:= "",byteOffset:=0 } rfl
 have f1:=hfs 1 { name:= "Door",type:=26,offset:=1,embedded:=false,tag:= "",pkgPath:= "",byteOffset:=24 } rfl
 have f2:=hfs 2 { name:= "Nets",type:=27,offset:=3,embedded:=false,tag:= "",pkgPath:= "",byteOffset:=72 } rfl
 rw[zE (by omega)] at f0 f1 f2
 try dsimp only at f0 f1 f2
 try simp only[k1,k2,k3,List.drop_zero,List.drop_succ_cons,List.take_succ_cons,List.take_zero] at f0 f1 f2
 obtain⟨lc,i1,b1,b2⟩:=qfr (v:=c0) f0
 obtain⟨ln,i2,b3,b4⟩:=qgm (v:=c3) f2
 obtain⟨ys,n2,_,_,_,hyl,hgs⟩:=DataW.trod_struct Tryz.underlying26 f1
 have yl:ys.length=2:=hyl
 have g0:=hgs 0 { name:= "Map",type:=23,offset:=0,embedded:=false,tag:= "",pkgPath:= "",byteOffset:=0 } rfl
 have g1:=hgs 1 { name:= "Flows",type:=24,offset:=1,embedded:=false,tag:= "",pkgPath:= "",byteOffset:=24 } rfl
 rw[zE (by omega)] at g0 g1
 try dsimp only at g0 g1
 try simp only[k4,k5,List.drop_zero,List.drop_succ_cons,List.take_succ_cons,List.take_zero] at g0 g1
 obtain⟨lm,i3,b5,_⟩:=qfq (v:=c1) g0
 obtain⟨lf,i4,b6,b7⟩:=qfo (v:=c2) g1
 refine⟨⟨lc,⟨lm,lf⟩,ln⟩,⟨[c0,c1,c2,c3],by rw[←hus],rfl,λj a b ha hb=>?_⟩,⟨b1,b2⟩,b5,⟨b6,b7⟩,b3,b4⟩
 match j,ha,hb with
 | 0,ha,hb=>cases ha;cases hb;exact i1
 | 1,ha,hb=>cases ha;cases hb;exact i3
 | 2,ha,hb=>cases ha;cases hb;exact i4
 | 3,ha,hb=>cases ha;cases hb;exact i2
 | j+4,ha,hb=>simp at ha
theorem qf6 {H:Type} {enc:TypeId×Value→H} {W:Go.World} {v:Value} {d:DataW H} {ps:List MemPlace} (h:DataW.Trod enc Tryz.prog W 0 (λ_=>true) true 49 v d ps) (hv:∃us,v=.agg us∧us.size=Tryz.prog.cellsOf 49):∃e:Ev,Den W noO noρ noH (.agg [.int .i64 e.kind,.int .i64 e.a,.int .i64 e.b,.int .i64 e.c,.int .i64 e.pkt.kind,.int .i64 e.pkt.frm.a,.int .i64 e.pkt.frm.p,.int .i64 e.pkt.to.a,.int .i64 e.pkt.to.p,.int .i64 e.pkt.at_,.str e.pkt.text]) v∧qtv e:=by
 obtain⟨us,rfl,hsz⟩:=hv
 obtain⟨fuel,hf⟩:=h
 have hf:DataW.trod enc Tryz.prog W 0 (λ_=>true) true fuel 49 us.toList=some (d,ps):=hf
 have e11:us.toList.length=11:=by rw[Array.length_toList,hsz];kernel_rfl
 obtain⟨e,he,hr⟩:=mk_ev (w:=W) us.toList (q49 8 fuel _ us.toList _ [false,false,false,false,false,false,false,false,false,false,true] hf (by kernel_rfl))
 refine⟨e,⟨us.toList,by simp,by rw[e11];rfl,λj a b ha hb=>?_⟩,he⟩
 obtain⟨u,h1,h2⟩:=hr j a ha
 rw[hb] at h1
 cases h1
 have hj:j<11:=by have:=(List.getElem?_eq_some_iff.1 hb).1;omega
 match j,hj,ha with
 | 0,_,ha=>cases ha;exact h2
 | 1,_,ha=>cases ha;exact h2
 | 2,_,ha=>cases ha;exact h2
 | 3,_,ha=>cases ha;exact h2
 | 4,_,ha=>cases ha;exact h2
 | 5,_,ha=>cases ha;exact h2
 | 6,_,ha=>cases ha;exact h2
 | 7,_,ha=>cases ha;exact h2
 | 8,_,ha=>cases ha;exact h2
 | 9,_,ha=>cases ha;exact h2
 | 10,_,ha=>cases ha;exact h2
end Go.Proofs.YtpppoklkijmeoaaGreatDoor.W
namespace Go.Proofs.YtpppoklkijmeoaaGreatDoor.W
open Go Go.RowKit Go.Proofs Go.Proofs.YtpppoklkijmeoaaGreatDoor.VL Go.Proofs.YtpppoklkijmeoaaGreatDoor.M
def q5p (p:Part):Prop:=p.text.length≤1048576
def qil (s:Strm):Prop:=s.inn.length≤1048576∧s.parts.length≤1048576∧∀p∈s.parts,q5p p
def q9r (f:Flw):Prop:=qil f.up∧qil f.down
def qc8 (p:Pk):Prop:=p.text.length≤1048576
def qex (c:Conv):Prop:=c.up.length≤1048576∧c.down.length≤1048576∧c.upGot.length≤1048576∧c.downGot.length≤1048576
def smW (w:M.World):Prop:=(w.convs.length≤1048576∧∀c∈w.convs,qex c)∧w.door.map.length≤1048576∧(w.door.flows.length≤1048576∧∀f∈w.door.flows,q9r f)∧w.nets.length≤1048576∧∀p∈w.nets,qc8 p
def szQ (Q:Prop) (v:V) (o:List Hs):Prop:=o=[]∧∃r:Int,v=.int .i64 r∧(r<0∨((0≤r∧r≤1048576)∧Q))
theorem q5q (Q:Prop):∃v o,szQ Q v o:=⟨_,_,rfl,-1,rfl,.inl (by decide)⟩
def qyn:IC:=sR [oP 2 (.box 204 (.t 0)),oP 4 (.mv (.c i0))] (sR [mV 5 1,fD 6 1 2,lD 7 1 6,oP 8 (.lens (.t 7)),bN 9 .sub 5 8,mV 1 9] (.seq (sR [mV 10 1,oP 11 (.bin .lss (.t 10) (.c i0))] (cD 11 (sR [oP 4 (.mv (.c (.int .i64 (-1))))] .ret) .skip)) (sR [mV 12 1,mV 4 12] .ret)))
theorem dg171:Dg Tryz.prog 171 Tryz.f171 qyn [(.t 4)]:=⟨Tryz.func171,by kernel_rfl,by kernel_rfl⟩
theorem q171 (x:Part) (n:Int) (hx:(x.text.length:Int)≤9223372036854775807) (hn:0≤n∧n≤1048576):FnP Tryz.prog G 171 0 [] [.agg [.int .i64 x.size,.str x.text],.int .i64 n] (szQ (q5p x)):=by
 refine mP dg171 Tryz.ntmps171 (q5q _) ?_
 have w1:IntKind.i64.wrap (n - (x.text.length:Int))=n - x.text.length:=q00 (by omega)
 simp only[qyn,w1,go_sem]
 by_cases h:n - (x.text.length:Int)<0
 ·simp only[eq_true h,w1,go_sem]
  exact q1h (.int .i64 (-1)) [] [] (by simp only[go_sem]) ⟨rfl,_,rfl,.inl (by decide)⟩ (by simp only[go_sem]) (by simp[q11]) (by simp only[go_sem])
 ·simp only[eq_false h,w1,go_sem]
  exact q1h (.int .i64 (n - x.text.length)) [] [] (by simp only[go_sem]) ⟨rfl,_,rfl,.inr ⟨by omega,by simp only[q5p,qc8];omega⟩⟩ (by simp only[go_sem]) (by simp[q11]) (by simp only[go_sem])
theorem q39 (x:Pk) (n:Int) (hx:(x.text.length:Int)≤9223372036854775807) (hn:0≤n∧n≤1048576):FnP Tryz.prog G 39 0 [] [.agg [.int .i64 x.kind,.int .i64 x.frm.a,.int .i64 x.frm.p,.int .i64 x.to.a,.int .i64 x.to.p,.int .i64 x.at_,.str x.text],.int .i64 n] (szQ (qc8 x)):=by
 refine mP dg39 Tryz.ntmps39 (q5q _) ?_
 have w1:IntKind.i64.wrap (n - (x.text.length:Int))=n - x.text.length:=q00 (by omega)
 simp only[ic39,w1,go_sem]
 by_cases h:n - (x.text.length:Int)<0
 ·simp only[eq_true h,w1,go_sem]
  exact q1h (.int .i64 (-1)) [] [] (by simp only[go_sem]) ⟨rfl,_,rfl,.inl (by decide)⟩ (by simp only[go_sem]) (by simp[q11]) (by simp only[go_sem])
 ·simp only[eq_false h,w1,go_sem]
  exact q1h (.int .i64 (n - x.text.length)) [] [] (by simp only[go_sem]) ⟨rfl,_,rfl,.inr ⟨by omega,by simp only[q5p,qc8];omega⟩⟩ (by simp only[go_sem]) (by simp[q11]) (by simp only[go_sem])
def qtr:IC:=sR [oP 4 (.mv (.c i0))] (sR [mV 6 1,mV 7 0,oP 8 (.len (.t 7)),bN 9 .sub 6 8,mV 1 9] (.seq (sR [mV 10 1,oP 11 (.bin .lss (.t 10) (.c i0))] (cD 11 (sR [oP 4 (.mv (.c (.int .i64 (-1))))] .ret) .skip)) (.seq (sR [oP 5 (.mv (.c i0))] (.block 0 (.loop (.seq (sR [mV 12 5,mV 13 0,oP 14 (.len (.t 13)),bN 15 .lss 12 14] (cD 15 .skip (.exit 0))) (.seq (.block 1 (sR [mV 18 0,mV 19 5,oP 20 (.iad 2 (.t 18) (.t 19)),lA 21 2 20,mV 22 1,oP 23 (.call 171 [.t 21,.t 22]),mV 1 23] (sR [mV 24 1,oP 25 (.bin .lss (.t 24) (.c i0))] (cD 25 (sR [oP 4 (.mv (.c (.int .i64 (-1))))] .ret) .skip)))) (.reg [mV 16 5,oP 17 (.bin .add (.t 16) (cI 1)),mV 5 17])))))) (sR [mV 26 1,mV 4 26] .ret))))
theorem dg150:Dg Tryz.prog 150 Tryz.f150 qtr [(.t 4)]:=⟨Tryz.func150,by kernel_rfl,by kernel_rfl⟩
set_option maxHeartbeats 1000000 in
theorem q150 (l:List Part) (n:Int) (hl:(l.length:Int)≤9223372036854775807) (hx:∀x∈l,(x.text.length:Int)≤9223372036854775807) (hn:0≤n∧n≤1048576):FnP Tryz.prog G 150 0 [] [.sl 2 (l.map Part.row),.int .i64 n] (szQ (l.length≤1048576∧∀x∈l,q5p x)):=by
 refine mP dg150 Tryz.ntmps150 (q5q _) ?_
 have w1:IntKind.i64.wrap (n - (l.length:Int))=n - l.length:=q00 (by omega)
 simp only[qtr,w1,go_sem]
 by_cases h:n - (l.length:Int)<0
 ·simp only[eq_true h,w1,go_sem]
  exact q1h (.int .i64 (-1)) [] [] (by simp only[go_sem]) ⟨rfl,_,rfl,.inl (by decide)⟩ (by simp only[go_sem]) (by simp[q11]) (by simp only[go_sem])
 simp only[eq_false h,w1,go_sem]
 refine q0d (λa:Nat×Int=>⟨q0e [(0,.sl 2 (l.map Part.row)),(1,.int .i64 a.2),(5,.int .i64 (a.1:Int))],q01 []⟩) (λa=>l.length - a.1) (λa=>a.1≤l.length∧(0≤a.2∧a.2≤1048576)∧∀x∈l.take a.1,q5p x) (0,n - l.length) (leQ []) ⟨Nat.zero_le _,by simp only;omega,λx hx=>by simp at hx⟩ ?_
 intro⟨i,m⟩ ⟨hi,hm,he⟩
 simp only at hi hm he
 simp only[go_sem]
 by_cases h:(i:Int)<l.length
 ·have hil:i<l.length:=by omega
  have hg:l.getD i default=l[i]:=by simp[List.getD,hil]
  have wi:IntKind.i64.wrap ((i:Int)+1)=i+1:=q00 (by omega)
  simp only[eq_true h,go_sem]
  with_reducible repeat' (first|refine br ?_ ?_<;>intro h e<;>(try simp only[e,go_sem,hg])<;>clear e|rw[q00 (by omega)]|refine sd ?_<;>try simp only[go_sem,hg]|fail)
  refine q14 (q171 l[i] m (hx _ (List.getElem_mem hil)) hm) [] 23 0 (by simp only[go_sem];first|done|simp) (by simp) (by rintro _ _ ⟨rfl,_⟩;simp) (by intro i hi;omega) ?_
  rintro _ _ ⟨rfl,r23,rfl,h23⟩
  simp only[go_sem]
  by_cases g23:r23<0
  ·simp only[eq_true g23,go_sem]
   exact q1h (.int .i64 (-1)) [] [] (by simp only[go_sem]) ⟨rfl,_,rfl,.inl (by decide)⟩ (by simp only[go_sem]) (by simp[q11]) (by simp only[go_sem])
  simp only[eq_false g23,wi,go_sem]
  obtain⟨b23,f23⟩:=h23.resolve_left g23
  exact⟨(i+1,r23),by simp only;omega,⟨by simp only;omega,b23,λx hx=>by
   rw[List.take_add_one,zE hil] at hx
   rcases List.mem_append.1 hx with hx|hx
   ·exact he x hx
   ·simp only[Option.toList_some,List.mem_singleton] at hx
    rw[hx];exact f23⟩,(leQ [])⟩
 ·simp only[eq_false h,go_sem]
  have:i=l.length:=by omega
  subst this
  rw[List.take_length] at he
  exact q1h (.int .i64 m) [] [] (by simp only[go_sem]) ⟨rfl,_,rfl,.inr ⟨hm,by omega,he⟩⟩ (by simp only[go_sem]) (by simp[q11]) (by simp only[go_sem])
def ic18:IC:=sR [oP 4 (.mv (.c i0))] (sR [mV 6 1,mV 7 0,oP 8 (.len (.t 7)),bN 9 .sub 6 8,mV 1 9] (.seq (sR [mV 10 1,oP 11 (.bin .lss (.t 10) (.c i0))] (cD 11 (sR [oP 4 (.mv (.c (.int .i64 (-1))))] .ret) .skip)) (.seq (sR [oP 5 (.mv (.c i0))] (.block 0 (.loop (.seq (sR [mV 12 5,mV 13 0,oP 14 (.len (.t 13)),bN 15 .lss 12 14] (cD 15 .skip (.exit 0))) (.seq (.block 1 (sR [mV 18 0,mV 19 5,oP 20 (.iad 7 (.t 18) (.t 19)),lA 21 7 20,mV 22 1,oP 23 (.call 39 [.t 21,.t 22]),mV 1 23] (sR [mV 24 1,oP 25 (.bin .lss (.t 24) (.c i0))] (cD 25 (sR [oP 4 (.mv (.c (.int .i64 (-1))))] .ret) .skip)))) (.reg [mV 16 5,oP 17 (.bin .add (.t 16) (cI 1)),mV 5 17])))))) (sR [mV 26 1,mV 4 26] .ret))))
theorem dg18:Dg Tryz.prog 18 Tryz.f18 ic18 [(.t 4)]:=⟨Tryz.func18,by kernel_rfl,by kernel_rfl⟩
set_option maxHeartbeats 1000000 in
theorem q18 (l:List Pk) (n:Int) (hl:(l.length:Int)≤9223372036854775807) (hx:∀x∈l,(x.text.length:Int)≤9223372036854775807) (hn:0≤n∧n≤1048576):FnP Tryz.prog G 18 0 [] [.sl 7 (l.map Pk.row),.int .i64 n] (szQ (l.length≤1048576∧∀x∈l,qc8 x)):=by
 refine mP dg18 Tryz.ntmps18 (q5q _) ?_
 have w1:IntKind.i64.wrap (n - (l.length:Int))=n - l.length:=q00 (by omega)
 simp only[ic18,w1,go_sem]
 by_cases h:n - (l.length:Int)<0
 ·simp only[eq_true h,w1,go_sem]
  exact q1h (.int .i64 (-1)) [] [] (by simp only[go_sem]) ⟨rfl,_,rfl,.inl (by decide)⟩ (by simp only[go_sem]) (by simp[q11]) (by simp only[go_sem])
 simp only[eq_false h,w1,go_sem]
 refine q0d (λa:Nat×Int=>⟨q0e [(0,.sl 7 (l.map Pk.row)),(1,.int .i64 a.2),(5,.int .i64 (a.1:Int))],q01 []⟩) (λa=>l.length - a.1) (λa=>a.1≤l.length∧(0≤a.2∧a.2≤1048576)∧∀x∈l.take a.1,qc8 x) (0,n - l.length) (leQ []) ⟨Nat.zero_le _,by simp only;omega,λx hx=>by simp at hx⟩ ?_
 intro⟨i,m⟩ ⟨hi,hm,he⟩
 simp only at hi hm he
 simp only[go_sem]
 by_cases h:(i:Int)<l.length
 ·have hil:i<l.length:=by omega
  have hg:l.getD i default=l[i]:=by simp[List.getD,hil]
  have wi:IntKind.i64.wrap ((i:Int)+1)=i+1:=q00 (by omega)
  simp only[eq_true h,go_sem]
  with_reducible repeat' (first|refine br ?_ ?_<;>intro h e<;>(try simp only[e,go_sem,hg])<;>clear e|rw[q00 (by omega)]|refine sd ?_<;>try simp only[go_sem,hg]|fail)
  refine q14 (q39 l[i] m (hx _ (List.getElem_mem hil)) hm) [] 23 0 (by simp only[go_sem];first|done|simp) (by simp) (by rintro _ _ ⟨rfl,_⟩;simp) (by intro i hi;omega) ?_
  rintro _ _ ⟨rfl,r23,rfl,h23⟩
  simp only[go_sem]
  by_cases g23:r23<0
  ·simp only[eq_true g23,go_sem]
   exact q1h (.int .i64 (-1)) [] [] (by simp only[go_sem]) ⟨rfl,_,rfl,.inl (by decide)⟩ (by simp only[go_sem]) (by simp[q11]) (by simp only[go_sem])
  simp only[eq_false g23,wi,go_sem]
  obtain⟨b23,f23⟩:=h23.resolve_left g23
  exact⟨(i+1,r23),by simp only;omega,⟨by simp only;omega,b23,λx hx=>by
   rw[List.take_add_one,zE hil] at hx
   rcases List.mem_append.1 hx with hx|hx
   ·exact he x hx
   ·simp only[Option.toList_some,List.mem_singleton] at hx
    rw[hx];exact f23⟩,(leQ [])⟩
 ·simp only[eq_false h,go_sem]
  have:i=l.length:=by omega
  subst this
  rw[List.take_length] at he
  exact q1h (.int .i64 m) [] [] (by simp only[go_sem]) ⟨rfl,_,rfl,.inr ⟨hm,by omega,he⟩⟩ (by simp only[go_sem]) (by simp[q11]) (by simp only[go_sem])
def qxh:IC:=sR [oP 2 (.box 120 (.t 0)),oP 4 (.mv (.c i0))] (sR [mV 5 1,fD 6 0 2,lD 7 1 6,oP 8 (.lens (.t 7)),bN 9 .sub 5 8,mV 1 9] (.seq (sR [mV 10 1,oP 11 (.bin .lss (.t 10) (.c i0))] (cD 11 (sR [oP 4 (.mv (.c (.int .i64 (-1))))] .ret) .skip)) (sR [fD 12 1 2,lD 13 1 12,mV 14 1,oP 15 (.call 150 [.t 13,.t 14]),mV 1 15] (.seq (sR [mV 16 1,oP 17 (.bin .lss (.t 16) (.c i0))] (cD 17 (sR [oP 4 (.mv (.c (.int .i64 (-1))))] .ret) .skip)) (sR [mV 18 1,mV 4 18] .ret)))))
theorem dg126:Dg Tryz.prog 126 Tryz.f126 qxh [(.t 4)]:=⟨Tryz.func126,by kernel_rfl,by kernel_rfl⟩
theorem q126 (s:Strm) (n:Int) (hi:(s.inn.length:Int)≤9223372036854775807) (hp:qyc s.parts) (hn:0≤n∧n≤1048576):FnP Tryz.prog G 126 0 [] [.agg [.str s.inn,.sl 2 (s.parts.map Part.row)],.int .i64 n] (szQ (qil s)):=by
 refine mP dg126 Tryz.ntmps126 (q5q _) ?_
 have w1:IntKind.i64.wrap (n - (s.inn.length:Int))=n - s.inn.length:=q00 (by omega)
 simp only[qxh,w1,go_sem]
 by_cases h:n - (s.inn.length:Int)<0
 ·simp only[eq_true h,w1,go_sem]
  exact q1h (.int .i64 (-1)) [] [] (by simp only[go_sem]) ⟨rfl,_,rfl,.inl (by decide)⟩ (by simp only[go_sem]) (by simp[q11]) (by simp only[go_sem])
 simp only[eq_false h,w1,go_sem]
 refine q14 (q150 s.parts (n - s.inn.length) hp.1 hp.2 (by omega)) [] 15 0 (by simp only[go_sem];first|done|simp) (by simp) (by rintro _ _ ⟨rfl,_⟩;simp) (by intro i hi;omega) ?_
 rintro _ _ ⟨rfl,r15,rfl,h15⟩
 simp only[go_sem]
 by_cases g15:r15<0
 ·simp only[eq_true g15,go_sem]
  exact q1h (.int .i64 (-1)) [] [] (by simp only[go_sem]) ⟨rfl,_,rfl,.inl (by decide)⟩ (by simp only[go_sem]) (by simp[q11]) (by simp only[go_sem])
 simp only[eq_false g15,go_sem]
 obtain⟨b15,f15⟩:=h15.resolve_left g15
 exact q1h (.int .i64 r15) [] [] (by simp only[go_sem]) ⟨rfl,_,rfl,.inr ⟨b15,by omega,f15⟩⟩ (by simp only[go_sem]) (by simp[q11]) (by simp only[go_sem])
def ic87:IC:=sR [oP 2 (.box 122 (.t 0)),oP 4 (.mv (.c i0))] (sR [fD 5 4 2,lA 6 2 5,mV 7 1,oP 8 (.call 126 [.t 6,.t 7]),mV 1 8] (.seq (sR [mV 9 1,oP 10 (.bin .lss (.t 9) (.c i0))] (cD 10 (sR [oP 4 (.mv (.c (.int .i64 (-1))))] .ret) .skip)) (sR [fD 11 6 2,lA 12 2 11,mV 13 1,oP 14 (.call 126 [.t 12,.t 13]),mV 1 14] (.seq (sR [mV 15 1,oP 16 (.bin .lss (.t 15) (.c i0))] (cD 16 (sR [oP 4 (.mv (.c (.int .i64 (-1))))] .ret) .skip)) (sR [mV 17 1,mV 4 17] .ret)))))
theorem dg87:Dg Tryz.prog 87 Tryz.f87 ic87 [(.t 4)]:=⟨Tryz.func87,by kernel_rfl,by kernel_rfl⟩
theorem q87 (x:Flw) (n:Int) (hx:qe0 x) (hn:0≤n∧n≤1048576):FnP Tryz.prog G 87 0 [] [.agg (Flw.row x),.int .i64 n] (szQ (q9r x)):=by
 refine mP dg87 Tryz.ntmps87 (q5q _) ?_
 obtain⟨⟨x1,x2⟩,x3,x4⟩:=hx
 simp only[ic87,go_sem]
 refine q14 (q126 x.up n x1 x2 hn) [] 8 0 (by simp only[go_sem];first|done|simp) (by simp) (by rintro _ _ ⟨rfl,_⟩;simp) (by intro i hi;omega) ?_
 rintro _ _ ⟨rfl,r8,rfl,h8⟩
 simp only[go_sem]
 by_cases g8:r8<0
 ·simp only[eq_true g8,go_sem]
  exact q1h (.int .i64 (-1)) [] [] (by simp only[go_sem]) ⟨rfl,_,rfl,.inl (by decide)⟩ (by simp only[go_sem]) (by simp[q11]) (by simp only[go_sem])
 simp only[eq_false g8,go_sem]
 obtain⟨b8,f8⟩:=h8.resolve_left g8
 refine q14 (q126 x.down r8 x3 x4 b8) [] 14 0 (by simp only[go_sem];first|done|simp) (by simp) (by rintro _ _ ⟨rfl,_⟩;simp) (by intro i hi;omega) ?_
 rintro _ _ ⟨rfl,r14,rfl,h14⟩
 simp only[go_sem]
 by_cases g14:r14<0
 ·simp only[eq_true g14,go_sem]
  exact q1h (.int .i64 (-1)) [] [] (by simp only[go_sem]) ⟨rfl,_,rfl,.inl (by decide)⟩ (by simp only[go_sem]) (by simp[q11]) (by simp only[go_sem])
 simp only[eq_false g14,go_sem]
 obtain⟨b14,f14⟩:=h14.resolve_left g14
 exact q1h (.int .i64 r14) [] [] (by simp only[go_sem]) ⟨rfl,_,rfl,.inr ⟨b14,f8,f14⟩⟩ (by simp only[go_sem]) (by simp[q11]) (by simp only[go_sem])
def ic45:IC:=sR [oP 4 (.mv (.c i0))] (sR [mV 6 1,mV 7 0,oP 8 (.len (.t 7)),bN 9 .sub 6 8,mV 1 9] (.seq (sR [mV 10 1,oP 11 (.bin .lss (.t 10) (.c i0))] (cD 11 (sR [oP 4 (.mv (.c (.int .i64 (-1))))] .ret) .skip)) (.seq (sR [oP 5 (.mv (.c i0))] (.block 0 (.loop (.seq (sR [mV 12 5,mV 13 0,oP 14 (.len (.t 13)),bN 15 .lss 12 14] (cD 15 .skip (.exit 0))) (.seq (.block 1 (sR [mV 18 0,mV 19 5,oP 20 (.iad 8 (.t 18) (.t 19)),lA 21 8 20,mV 22 1,oP 23 (.call 87 [.t 21,.t 22]),mV 1 23] (sR [mV 24 1,oP 25 (.bin .lss (.t 24) (.c i0))] (cD 25 (sR [oP 4 (.mv (.c (.int .i64 (-1))))] .ret) .skip)))) (.reg [mV 16 5,oP 17 (.bin .add (.t 16) (cI 1)),mV 5 17])))))) (sR [mV 26 1,mV 4 26] .ret))))
theorem dg45:Dg Tryz.prog 45 Tryz.f45 ic45 [(.t 4)]:=⟨Tryz.func45,by kernel_rfl,by kernel_rfl⟩
set_option maxHeartbeats 1000000 in
theorem q45 (l:List Flw) (n:Int) (hl:(l.length:Int)≤9223372036854775807) (hx:∀x∈l,qe0 x) (hn:0≤n∧n≤1048576):FnP Tryz.prog G 45 0 [] [.sl 8 (l.map Flw.row),.int .i64 n] (szQ (l.length≤1048576∧∀x∈l,q9r x)):=by
 refine mP dg45 Tryz.ntmps45 (q5q _) ?_
 have w1:IntKind.i64.wrap (n - (l.length:Int))=n - l.length:=q00 (by omega)
 simp only[ic45,w1,go_sem]
 by_cases h:n - (l.length:Int)<0
 ·simp only[eq_true h,w1,go_sem]
  exact q1h (.int .i64 (-1)) [] [] (by simp only[go_sem]) ⟨rfl,_,rfl,.inl (by decide)⟩ (by simp only[go_sem]) (by simp[q11]) (by simp only[go_sem])
 simp only[eq_false h,w1,go_sem]
 refine q0d (λa:Nat×Int=>⟨q0e [(0,.sl 8 (l.map Flw.row)),(1,.int .i64 a.2),(5,.int .i64 (a.1:Int))],q01 []⟩) (λa=>l.length - a.1) (λa=>a.1≤l.length∧(0≤a.2∧a.2≤1048576)∧∀x∈l.take a.1,q9r x) (0,n - l.length) (leQ []) ⟨Nat.zero_le _,by simp only;omega,λx hx=>by simp at hx⟩ ?_
 intro⟨i,m⟩ ⟨hi,hm,he⟩
 simp only at hi hm he
 simp only[go_sem]
 by_cases h:(i:Int)<l.length
 ·have hil:i<l.length:=by omega
  have hg:l.getD i default=l[i]:=by simp[List.getD,hil]
  have wi:IntKind.i64.wrap ((i:Int)+1)=i+1:=q00 (by omega)
  simp only[eq_true h,go_sem]
  with_reducible repeat' (first|refine br ?_ ?_<;>intro h e<;>(try simp only[e,go_sem,hg])<;>clear e|rw[q00 (by omega)]|refine sd ?_<;>try simp only[go_sem,hg]|fail)
  refine q14 (q87 l[i] m (hx _ (List.getElem_mem hil)) hm) [] 23 0 (by simp only[go_sem];first|done|simp) (by simp) (by rintro _ _ ⟨rfl,_⟩;simp) (by intro i hi;omega) ?_
  rintro _ _ ⟨rfl,r23,rfl,h23⟩
  simp only[go_sem]
  by_cases g23:r23<0
  ·simp only[eq_true g23,go_sem]
   exact q1h (.int .i64 (-1)) [] [] (by simp only[go_sem]) ⟨rfl,_,rfl,.inl (by decide)⟩ (by simp only[go_sem]) (by simp[q11]) (by simp only[go_sem])
  simp only[eq_false g23,wi,go_sem]
  obtain⟨b23,f23⟩:=h23.resolve_left g23
  exact⟨(i+1,r23),by simp only;omega,⟨by simp only;omega,b23,λx hx=>by
   rw[List.take_add_one,zE hil] at hx
   rcases List.mem_append.1 hx with hx|hx
   ·exact he x hx
   ·simp only[Option.toList_some,List.mem_singleton] at hx
    rw[hx];exact f23⟩,(leQ [])⟩
 ·simp only[eq_false h,go_sem]
  have:i=l.length:=by omega
  subst this
  rw[List.take_length] at he
  exact q1h (.int .i64 m) [] [] (by simp only[go_sem]) ⟨rfl,_,rfl,.inr ⟨hm,by omega,he⟩⟩ (by simp only[go_sem]) (by simp[q11]) (by simp only[go_sem])
def ic44:IC:=sR [oP 4 (.mv (.c i0))] (sR [mV 5 1,mV 6 0,oP 7 (.len (.t 6)),bN 8 .sub 5 7,mV 1 8] (.seq (sR [mV 9 1,oP 10 (.bin .lss (.t 9) (.c i0))] (cD 10 (sR [oP 4 (.mv (.c (.int .i64 (-1))))] .ret) .skip)) (sR [mV 11 1,mV 4 11] .ret)))
theorem dg44:Dg Tryz.prog 44 Tryz.f44 ic44 [(.t 4)]:=⟨Tryz.func44,by kernel_rfl,by kernel_rfl⟩
theorem q44 (l:List Pair) (n:Int) (hl:(l.length:Int)≤9223372036854775807) (hn:0≤n∧n≤1048576):FnP Tryz.prog G 44 0 [] [.sl 3 (l.map Pair.row),.int .i64 n] (szQ (l.length≤1048576)):=by
 refine mP dg44 Tryz.ntmps44 (q5q _) ?_
 have w1:IntKind.i64.wrap (n - (l.length:Int))=n - l.length:=q00 (by omega)
 simp only[ic44,w1,go_sem]
 by_cases h:n - (l.length:Int)<0
 ·simp only[eq_true h,w1,go_sem]
  exact q1h (.int .i64 (-1)) [] [] (by simp only[go_sem]) ⟨rfl,_,rfl,.inl (by decide)⟩ (by simp only[go_sem]) (by simp[q11]) (by simp only[go_sem])
 ·simp only[eq_false h,w1,go_sem]
  exact q1h (.int .i64 (n - l.length)) [] [] (by simp only[go_sem]) ⟨rfl,_,rfl,.inr ⟨by omega,by omega⟩⟩ (by simp only[go_sem]) (by simp[q11]) (by simp only[go_sem])
def ic17:IC:=sR [oP 2 (.box 26 (.t 0)),oP 4 (.mv (.c i0))] (sR [fD 5 0 2,lD 6 1 5,mV 7 1,oP 8 (.call 44 [.t 6,.t 7]),mV 1 8] (.seq (sR [mV 9 1,oP 10 (.bin .lss (.t 9) (.c i0))] (cD 10 (sR [oP 4 (.mv (.c (.int .i64 (-1))))] .ret) .skip)) (sR [fD 11 1 2,lD 12 1 11,mV 13 1,oP 14 (.call 45 [.t 12,.t 13]),mV 1 14] (.seq (sR [mV 15 1,oP 16 (.bin .lss (.t 15) (.c i0))] (cD 16 (sR [oP 4 (.mv (.c (.int .i64 (-1))))] .ret) .skip)) (sR [mV 17 1,mV 4 17] .ret)))))
theorem dg17:Dg Tryz.prog 17 Tryz.f17 ic17 [(.t 4)]:=⟨Tryz.func17,by kernel_rfl,by kernel_rfl⟩
theorem q17 (d:Door) (n:Int) (h1:(d.map.length:Int)≤9223372036854775807) (h2:(d.flows.length:Int)≤9223372036854775807) (h3:∀f∈d.flows,qe0 f) (hn:0≤n∧n≤1048576):FnP Tryz.prog G 17 0 [] [.agg [.sl 3 (d.map.map Pair.row),.sl 8 (d.flows.map Flw.row)],.int .i64 n] (szQ (d.map.length≤1048576∧d.flows.length≤1048576∧∀f∈d.flows,q9r f)):=by
 refine mP dg17 Tryz.ntmps17 (q5q _) ?_
 simp only[ic17,go_sem]
 refine q14 (q44 d.map n h1 hn) [] 8 0 (by simp only[go_sem];first|done|simp) (by simp) (by rintro _ _ ⟨rfl,_⟩;simp) (by intro i hi;omega) ?_
 rintro _ _ ⟨rfl,r8,rfl,h8⟩
 simp only[go_sem]
 by_cases g8:r8<0
 ·simp only[eq_true g8,go_sem]
  exact q1h (.int .i64 (-1)) [] [] (by simp only[go_sem]) ⟨rfl,_,rfl,.inl (by decide)⟩ (by simp only[go_sem]) (by simp[q11]) (by simp only[go_sem])
 simp only[eq_false g8,go_sem]
 obtain⟨b8,f8⟩:=h8.resolve_left g8
 refine q14 (q45 d.flows r8 h2 h3 b8) [] 14 0 (by simp only[go_sem];first|done|simp) (by simp) (by rintro _ _ ⟨rfl,_⟩;simp) (by intro i hi;omega) ?_
 rintro _ _ ⟨rfl,r14,rfl,h14⟩
 simp only[go_sem]
 by_cases g14:r14<0
 ·simp only[eq_true g14,go_sem]
  exact q1h (.int .i64 (-1)) [] [] (by simp only[go_sem]) ⟨rfl,_,rfl,.inl (by decide)⟩ (by simp only[go_sem]) (by simp[q11]) (by simp only[go_sem])
 simp only[eq_false g14,go_sem]
 obtain⟨b14,f14⟩:=h14.resolve_left g14
 exact q1h (.int .i64 r14) [] [] (by simp only[go_sem]) ⟨rfl,_,rfl,.inr ⟨b14,f8,f14⟩⟩ (by simp only[go_sem]) (by simp[q11]) (by simp only[go_sem])
def ic5:IC:=sR [oP 2 (.box 29 (.t 0)),oP 4 (.mv (.c i0))] (sR [fD 5 0 2,lD 6 1 5,mV 7 1,oP 8 (.call 16 [.t 6,.t 7]),mV 1 8] (.seq (sR [mV 9 1,oP 10 (.bin .lss (.t 9) (.c i0))] (cD 10 (sR [oP 4 (.mv (.c (.int .i64 (-1))))] .ret) .skip)) (sR [fD 11 1 2,lA 12 2 11,mV 13 1,oP 14 (.call 17 [.t 12,.t 13]),mV 1 14] (.seq (sR [mV 15 1,oP 16 (.bin .lss (.t 15) (.c i0))] (cD 16 (sR [oP 4 (.mv (.c (.int .i64 (-1))))] .ret) .skip)) (sR [fD 17 3 2,lD 18 1 17,mV 19 1,oP 20 (.call 18 [.t 18,.t 19]),mV 1 20] (.seq (sR [mV 21 1,oP 22 (.bin .lss (.t 21) (.c i0))] (cD 22 (sR [oP 4 (.mv (.c (.int .i64 (-1))))] .ret) .skip)) (sR [mV 23 1,mV 4 23] .ret)))))))
theorem dg5:Dg Tryz.prog 5 Tryz.f5 ic5 [(.t 4)]:=⟨Tryz.func5,by kernel_rfl,by kernel_rfl⟩
theorem q5 (w:M.World) (n:Int) (h:qry w) (hn:0≤n∧n≤1048576):FnP Tryz.prog G 5 0 [] [.agg [.sl 10 (w.convs.map Conv.row),.sl 3 (w.door.map.map Pair.row),.sl 8 (w.door.flows.map Flw.row),.sl 7 (w.nets.map Pk.row)],.int .i64 n] (szQ (smW w)):=by
 refine mP dg5 Tryz.ntmps5 (q5q _) ?_
 obtain⟨⟨x1,x2⟩,x3,⟨x4,x5⟩,x6,x7⟩:=h
 have c1:=c16 w.convs n x1 x2 hn
 simp only[ic5,go_sem]
 refine q0m c1 rfl rfl ?_
 simp only[go_sem]
 by_cases g0:szS szC n w.convs<0
 ·simp only[eq_true g0,go_sem]
  exact q1h (.int .i64 (-1)) [] [] (by simp only[go_sem]) ⟨rfl,_,rfl,.inl (by decide)⟩ (by simp only[go_sem]) (by simp[q11]) (by simp only[go_sem])
 simp only[eq_false g0,go_sem]
 obtain⟨y1,y2,y3⟩:=qq7 (show 0≤szS szC n w.convs by omega)
 refine q14 (q17 w.door (szS szC n w.convs) x3 x4 x5 (by omega)) [] 14 0 (by simp only[go_sem];first|done|simp) (by simp) (by rintro _ _ ⟨rfl,_⟩;simp) (by intro i hi;omega) ?_
 rintro _ _ ⟨rfl,r14,rfl,h14⟩
 simp only[go_sem]
 by_cases g14:r14<0
 ·simp only[eq_true g14,go_sem]
  exact q1h (.int .i64 (-1)) [] [] (by simp only[go_sem]) ⟨rfl,_,rfl,.inl (by decide)⟩ (by simp only[go_sem]) (by simp[q11]) (by simp only[go_sem])
 simp only[eq_false g14,go_sem]
 obtain⟨b14,f14⟩:=h14.resolve_left g14
 refine q14 (q18 w.nets r14 x6 x7 b14) [] 20 0 (by simp only[go_sem];first|done|simp) (by simp) (by rintro _ _ ⟨rfl,_⟩;simp) (by intro i hi;omega) ?_
 rintro _ _ ⟨rfl,r20,rfl,h20⟩
 simp only[go_sem]
 by_cases g20:r20<0
 ·simp only[eq_true g20,go_sem]
  exact q1h (.int .i64 (-1)) [] [] (by simp only[go_sem]) ⟨rfl,_,rfl,.inl (by decide)⟩ (by simp only[go_sem]) (by simp[q11]) (by simp only[go_sem])
 simp only[eq_false g20,go_sem]
 obtain⟨b20,f20⟩:=h20.resolve_left g20
 exact q1h (.int .i64 r20) [] [] (by simp only[go_sem]) ⟨rfl,_,rfl,.inr ⟨b20,⟨by omega,λc hc=>by have:=y3 c hc;simp only[qex];omega⟩,f14.1,f14.2,f20⟩⟩ (by simp only[go_sem]) (by simp[q11]) (by simp only[go_sem])
end Go.Proofs.YtpppoklkijmeoaaGreatDoor.W
namespace Go.Proofs.YtpppoklkijmeoaaGreatDoor.W
open Go Go.RowKit Go.Proofs Go.Proofs.YtpppoklkijmeoaaGreatDoor.VL Go.Proofs.YtpppoklkijmeoaaGreatDoor.M
attribute [local go_sem] q1j
theorem q2f:∀ {k:Int} {fs:List Flw} {j:Nat} {x y:Flw},fs[j]?=some x→(q54 k fs)[j]?=some y→y.up.parts.length=x.up.parts.length∧y.down.parts.length=x.down.parts.length
 | k,f::fs,0,x,y,hx,hy=>by
   simp only[q54,List.getElem?_cons_zero,zS] at hx hy
   subst hx hy
   simp[qcq,q0o]
 | k,f::fs,j+1,x,y,hx,hy=>by
   simp only[q54,List.getElem?_cons_succ] at hx hy
   exact q2f hx hy
 | _,[],_,_,_,hx,_=>by simp at hx
theorem qeq:∀ {k:Int} {fs:List Flw} {i:Nat} (h:i<fs.length),(q54 k fs)[i]?=some (qcq (q4v k (fs.take i)) fs[i])
 | k,f::fs,0,_=>by simp[q54,q4v]
 | k,f::fs,i+1,h=>by
   simp only[q54,List.getElem?_cons_succ,List.take_succ_cons,q4v,List.getElem_cons_succ]
   exact qeq (by simpa using h)
set_option maxHeartbeats 2000000 in
theorem d34 (l:List Pair) (fs:List Flw) (m:Nat) (k:Int) (hm:l.length=m) (hm2:m≤1048576) (hl:fs.length≤1048576) (hk:0≤k∧k≤20000000000) (hb:∀f∈fs,ptB f):FnP Tryz.prog G 34 (2+2*fs.length) ([.arr 132 3 (l.map Pair.row),.var 130 (frow 2 fs)]++q32 fs) [.agg [.own 0 m,.view 1 fs.length fs.length],.int .i64 k]
 (λr o=>r=.int .i64 (q4v (k+3*m) fs)∧o=[.arr 132 3 ((mkS qa0 3 k m).map Pair.row),.var 130 (frow 2 (q54 (k+3*m) fs))]++q32 (q54 (k+3*m) fs)):=by
 subst hm
 refine mP dg34 Tryz.ntmps34 ⟨_,_,rfl,rfl⟩ ?_
 have hz:q01 (q2x 2 fs) 3000002=.fresh:=q1q (.inr (by omega))
 simp only[ic34,hz,q35,go_sem,q08,q02,List.append_assoc,List.cons_append,List.nil_append,Nat.reduceLT]
 with_reducible repeat' (first|refine br ?_ ?_<;>intro h e<;>(try simp only[e,go_sem,hz,q35,q08,q02,List.append_assoc,List.cons_append,List.nil_append,Nat.reduceLT])<;>clear e|rw[q00 (by omega)]|refine sd ?_<;>try simp only[go_sem,hz,q35,q08,q02,List.append_assoc,List.cons_append,List.nil_append,Nat.reduceLT]|fail)
 refine q1k (c73 l k hm2 (by omega)) [0] [] true 1000000 1 (by simp only[go_sem];first|done|simp) (by simp only[go_sem,q08,q02,List.append_assoc,List.cons_append,List.nil_append,Nat.reduceLT];first|done|simp) (by simp) (by simp) (by simp) ?_ (by intro i hi;obtain rfl:i=0:=(by omega);simp only[q3u];(repeat first|rw[q01,if_neg (by omega)]|rw[q31 (.inr (by omega))]);exact q1q (.inr (by omega))) ?_
 ·rintro _ _ ⟨rfl,rfl⟩
  exact⟨by simp,by simp,.inl rfl,λi hi=>by obtain rfl:i=0:=(by omega);(simp[chH,q0h,q0o];try omega)⟩
 rintro _ _ ⟨rfl,rfl⟩
 simp only[go_sem,q08,q02,List.append_assoc,List.cons_append,List.nil_append,Nat.reduceLT]
 with_reducible repeat' (first|refine br ?_ ?_<;>intro h e<;>(try simp only[e,go_sem,q08,q02,List.append_assoc,List.cons_append,List.nil_append,Nat.reduceLT])<;>clear e|rw[q00 (by omega)]|refine sd ?_<;>try simp only[go_sem,q08,q02,List.append_assoc,List.cons_append,List.nil_append,Nat.reduceLT]|fail)
 refine qd8 (d74 fs (k+3*l.length) hl (by omega) hb) 2 [1] 2000000 rfl rfl rfl (q19 _ _) (λg h' hg hh=>?_) (λi hi=>⟨?_,λg h' hg hh hj=>?_⟩) (by repeat' first|exact q21 _ _ _|exact q0s _ _|refine q0n (by omega) ?_|refine q6l (by omega) ?_) (by simp) (by simp) (λi hi=>?_) (λj x y hx hy=>?_) (by intro i hi;simp only[q3u];(repeat first|rw[q01,if_neg (by omega)]|rw[q31 (.inr (by omega))]);exact q1q (.inr (by omega))) rfl (λg tc tc' hg he=>?_)
 ·simp only[go_sem,hg,hh,Nat.reduceLT]
 ·obtain rfl:i=0:=by omega
  rfl
 ·obtain rfl:i=0:=by omega
  simp only[go_sem,q08,q02,List.append_assoc,List.cons_append,List.nil_append,Nat.reduceLT]
  exact qct (by rw[q0p,q0p]) λj v v' h1 h2=>q2r (λj hj'=>hj j hj') h1 h2
 ·obtain rfl:i=0:=by omega
  rfl
 ·obtain⟨a,b⟩:=q2f hx hy
  omega
 simp only[go_sem,hg,he,Nat.reduceLT,q08,q02,List.append_assoc,List.cons_append,List.nil_append,Nat.reduceLT]
 with_reducible repeat' (first|refine br ?_ ?_<;>intro h e<;>(try simp only[e,go_sem,q08,q02,List.append_assoc,List.cons_append,List.nil_append,Nat.reduceLT])<;>clear e|rw[q00 (by omega)]|refine sd ?_<;>try simp only[go_sem,q08,q02,List.append_assoc,List.cons_append,List.nil_append,Nat.reduceLT]|fail)
 refine qir 2 (gs:=q54 (k+3*l.length) fs) (.int .i64 (q4v (k+3*l.length) fs)) [.arr 132 3 ((mkS qa0 3 k l.length).map Pair.row),.var 130 (frow 2 (q54 (k+3*l.length) fs))] (by rw[q19]) rfl (by simp only[go_sem]) rfl ⟨rfl,rfl⟩ (λc hc=>?_) (by rw[←q19 (k+3*l.length) fs] at hl;exact(by repeat' first|exact q21 _ _ _|exact q0s _ _|refine q0n (by omega) ?_|refine q6l (by omega) ?_))
 rcases(show c=0∨c=1 by omega) with rfl|rfl
 ·exact⟨by simp[chH],λF h' hh=>by simp only[go_sem,q08,q02,List.append_assoc,List.cons_append,List.nil_append,Nat.reduceLT]⟩
 ·exact⟨by simp[chH],λF h' hh=>by simp only[go_sem,q08,q02,List.append_assoc,List.cons_append,List.nil_append,Nat.reduceLT];exact q6y hh⟩
set_option maxHeartbeats 2000000 in
theorem d10 (w:M.World) (k:Int) (hs:smW w) (hk:0≤k∧k≤1000000000) (hb:∀f∈w.door.flows,ptB f):FnP Tryz.prog G 10 (4+2*w.door.flows.length) (WH w) [WV 0 w,.int .i64 k] (λr o=>r=.int .i64 (qc0 k w)∧o=WH (mkW k w)):=by
 obtain⟨⟨s1,_⟩,s2,⟨s3,_⟩,s4,_⟩:=hs
 have hle:=q60 (k:=k+10*w.convs.length+3*w.door.map.length) hb
 refine mP dg10 Tryz.ntmps10 ⟨_,_,rfl,rfl⟩ ?_
 have hz:q01 (q2x 4 w.door.flows) 3000002=.fresh:=q1q (.inr (by omega))
 have m1:(mkW k w).convs.length=w.convs.length:=q0o _
 simp only[ic10,WH,WV,hz,q35,go_sem,q08,q02,List.append_assoc,List.cons_append,List.nil_append,Nat.reduceLT]
 with_reducible repeat' (first|refine br ?_ ?_<;>intro h e<;>(try simp only[e,go_sem,hz,q35,q08,q02,List.append_assoc,List.cons_append,List.nil_append,Nat.reduceLT])<;>clear e|rw[q00 (by omega)]|refine sd ?_<;>try simp only[go_sem,hz,q35,q08,q02,List.append_assoc,List.cons_append,List.nil_append,Nat.reduceLT]|fail)
 refine q1k (c33 w.convs k s1 (by omega)) [0] [] true 1000000 1 (by simp only[go_sem];first|done|simp) (by simp only[go_sem,q08,q02,List.append_assoc,List.cons_append,List.nil_append,Nat.reduceLT];first|done|simp) (by simp) (by simp) (by simp) ?_ (by intro i hi;obtain rfl:i=0:=(by omega);simp only[q3u];(repeat first|rw[q01,if_neg (by omega)]|rw[q31 (.inr (by omega))]);exact q1q (.inr (by omega))) ?_
 ·rintro _ _ ⟨rfl,rfl⟩
  exact⟨by simp,by simp,.inl rfl,λi hi=>by obtain rfl:i=0:=(by omega);(simp[chH,q0h,q0o];try omega)⟩
 rintro _ _ ⟨rfl,rfl⟩
 simp only[go_sem,q08,q02,List.append_assoc,List.cons_append,List.nil_append,Nat.reduceLT]
 with_reducible repeat' (first|refine br ?_ ?_<;>intro h e<;>(try simp only[e,go_sem,q08,q02,List.append_assoc,List.cons_append,List.nil_append,Nat.reduceLT])<;>clear e|rw[q00 (by omega)]|refine sd ?_<;>try simp only[go_sem,q08,q02,List.append_assoc,List.cons_append,List.nil_append,Nat.reduceLT]|fail)
 refine qd8 (d34 w.door.map w.door.flows w.door.map.length (k+10*w.convs.length) rfl s2 s3 (by omega) hb) 4 [1,2] 2000000 rfl rfl rfl (q19 _ _) (λg h' hg hh=>?_) (λi hi=>⟨?_,λg h' hg hh hj=>?_⟩) (by repeat' first|exact q21 _ _ _|exact q0s _ _|refine q0n (by omega) ?_|refine q6l (by omega) ?_) (by simp) (by simp) (λi hi=>?_) (λj x y hx hy=>?_) (by intro i hi;simp only[q3u];(repeat first|rw[q01,if_neg (by omega)]|rw[q31 (.inr (by omega))]);exact q1q (.inr (by omega))) rfl (λg tc tc' hg he=>?_)
 ·simp only[go_sem,hg,hh,Nat.reduceLT]
 ·rcases(show i=0∨i=1 by omega) with rfl|rfl<;>rfl
 ·rcases(show i=0∨i=1 by omega) with rfl|rfl<;>simp only[go_sem,q08,q02,List.append_assoc,List.cons_append,List.nil_append,Nat.reduceLT]
  exact qct (by rw[q0p,q0p]) λj v v' h1 h2=>q2r (λj hj'=>hj j hj') h1 h2
 ·rcases(show i=0∨i=1 by omega) with rfl|rfl<;>simp[chH,q0h,q0o]
 ·obtain⟨a,b⟩:=q2f hx hy
  omega
 have hz2:∀l,q01 (q2x 4 (q54 (k+10*w.convs.length+3*w.door.map.length) w.door.flows)++l) 3000002=q01 l 3000002:=λl=>q31 (.inr (by rw[q19];omega))
 simp only[go_sem,hg,he,hz2,Nat.reduceLT,q08,q02,List.append_assoc,List.cons_append,List.nil_append,Nat.reduceLT]
 with_reducible repeat' (first|refine br ?_ ?_<;>intro h e<;>(try simp only[e,go_sem,hz2,q08,q02,List.append_assoc,List.cons_append,List.nil_append,Nat.reduceLT])<;>clear e|rw[q00 (by omega)]|refine sd ?_<;>try simp only[go_sem,hz2,q08,q02,List.append_assoc,List.cons_append,List.nil_append,Nat.reduceLT]|fail)
 have s3':=s3
 rw[←q19 (k+10*w.convs.length+3*w.door.map.length) w.door.flows] at s3'
 refine q1k (c35 w.nets (q4v (k+10*w.convs.length+3*w.door.map.length) w.door.flows) s4 (by omega)) [3] [] true 3000000 1 (by simp only[go_sem];first|done|simp) (by simp only[go_sem,q08,q02,List.append_assoc,List.cons_append,List.nil_append,Nat.reduceLT];first|done|simp) (by simp) (by simp) (by simp) ?_ (by intro i hi;obtain rfl:i=0:=(by omega);simp only[q3u];(repeat first|rw[q01,if_neg (by omega)]|rw[q31 (.inr (by omega))]);exact q1q (.inr (by omega))) ?_
 ·rintro _ _ ⟨rfl,rfl⟩
  exact⟨by simp,by simp,.inl rfl,λi hi=>by obtain rfl:i=0:=(by omega);(simp[chH,q0h,q0o];try omega)⟩
 rintro _ _ ⟨rfl,rfl⟩
 simp only[go_sem,q08,q02,List.append_assoc,List.cons_append,List.nil_append,Nat.reduceLT]
 with_reducible repeat' (first|refine br ?_ ?_<;>intro h e<;>(try simp only[e,go_sem,q08,q02,List.append_assoc,List.cons_append,List.nil_append,Nat.reduceLT])<;>clear e|rw[q00 (by omega)]|refine sd ?_<;>try simp only[go_sem,q08,q02,List.append_assoc,List.cons_append,List.nil_append,Nat.reduceLT]|fail)
 refine qir 4 (gs:=(mkW k w).door.flows) (.int .i64 (qc0 k w)) [.arr 91 10 ((mkW k w).convs.map Conv.row),.arr 132 3 ((mkW k w).door.map.map Pair.row),.var 130 (frow 4 (mkW k w).door.flows),.arr 54 7 ((mkW k w).nets.map Pk.row)] (by simp only[mkW];rw[q19]) rfl (by simp only[qc0,go_sem]) rfl ⟨rfl,rfl⟩ (λc hc=>?_) (by simp only[mkW];exact(by repeat' first|exact q21 _ _ _|exact q0s _ _|refine q0n (by omega) ?_|refine q6l (by omega) ?_))
 rcases(show c=0∨c=1∨c=2∨c=3 by omega) with rfl|rfl|rfl|rfl
 ·exact⟨by simp[chH],λF h' hh=>by simp only[mkW,go_sem,q08,q02,List.append_assoc,List.cons_append,List.nil_append,Nat.reduceLT]⟩
 ·exact⟨by simp[chH],λF h' hh=>by simp only[mkW,go_sem,q08,q02,List.append_assoc,List.cons_append,List.nil_append,Nat.reduceLT]⟩
 ·exact⟨by simp[chH],λF h' hh=>by simp only[mkW,go_sem,q08,q02,List.append_assoc,List.cons_append,List.nil_append,Nat.reduceLT];exact q6y hh⟩
 ·exact⟨by simp[chH],λF h' hh=>by simp only[mkW,go_sem,q08,q02,List.append_assoc,List.cons_append,List.nil_append,Nat.reduceLT]⟩
set_option maxHeartbeats 2000000 in
theorem c76 (fs:List Flw) (k:Int) (hl:fs.length≤1048576) (hk:0≤k∧k≤100000000000) (hb:∀f∈fs,ptB f):FnR Tryz.prog G 76 [.sl 8 ((q54 k fs).map Flw.row),.int .i64 k] (.int .i64 (q4v k fs)):=by
 refine mF dg76 Tryz.ntmps76 ?_
 have hn:=q19 k fs
 simp only[ic76,go_sem,hn]
 with_reducible repeat' (first|refine br ?_ ?_<;>intro h e<;>(try simp only[e,go_sem,hn])<;>clear e|rw[q00 (by omega)]|refine sd ?_<;>try simp only[go_sem,hn]|fail)
 refine q0d (λi:Nat=>⟨q0e [(0,.sl 8 ((q54 k fs).map Flw.row)),(1,.int .i64 (q4v k (fs.take i))),(5,.int .i64 (i:Int))],q01 []⟩) (λi=>fs.length - i) (λi=>i≤fs.length) 0 (leN [] (by simp only[go_sem,List.take_zero,q4v];first|done|simp) (by simp only[go_sem]) (by simp[q0f]) (by simp only[go_sem])) (Nat.zero_le _) ?_
 intro i hi
 simp only[go_sem,hn]
 by_cases h:(i:Int)<fs.length
 ·have hil:i<fs.length:=by omega
  have hg:(q54 k fs).getD i default=qcq (q4v k (fs.take i)) fs[i]:=by rw[List.getD,qeq hil];rfl
  have e0:fs.take (i+1)=fs.take i++[fs[i]]:=by rw[List.take_add_one];simp[hil]
  obtain⟨kk,hkk⟩:∃kk,q4v k (fs.take i)=kk:=⟨_,rfl⟩
  have e3:q4v k (fs.take (i+1))=flE kk fs[i]:=by rw[e0,qb2,hkk];rfl
  have hkb:0≤kk∧kk≤10000000000000:=by
   have:=q60 (k:=k) (fs:=fs.take i) λf hf=>hb f (List.mem_of_mem_take hf)
   simp only[List.length_take] at this
   omega
  rw[hkk] at hg
  obtain⟨h1,h2⟩:=hb _ (List.getElem_mem hil)
  generalize fs[i]=f at *
  obtain⟨q,hq⟩:∃q,kk+5+2*(f.up.parts.length:Int)=q:=⟨_,rfl⟩
  have hq1:kk+6+2*(f.up.parts.length:Int)=q+1:=by omega
  have hq2:q+1+2*(f.down.parts.length:Int)=flE kk f:=by simp only[flE];omega
  have hn1:¬q<0:=by omega
  have hn2:¬flE kk f<0:=by omega
  have c1:=c119 f.up.parts.length (kk+5) h1 (by omega)
  have c2:=c119 f.down.parts.length (q+1) h2 (by omega)
  rw[hq] at c1
  rw[hq2] at c2
  have w1:IntKind.i64.wrap (kk+1)=kk+1:=q00 (by omega)
  have w2:IntKind.i64.wrap (kk+2)=kk+2:=q00 (by omega)
  have w3:IntKind.i64.wrap (kk+3)=kk+3:=q00 (by omega)
  have w4:IntKind.i64.wrap (kk+4)=kk+4:=q00 (by omega)
  have w5:IntKind.i64.wrap (kk+5)=kk+5:=q00 (by omega)
  have wq:IntKind.i64.wrap (q+1)=q+1:=q00 (by omega)
  simp only[hkk]
  simp only[eq_true h,hg,hn,k11,k21,k31,k41,w1,w2,w3,w4,w5,qcq,hq,hq1,go_sem]
  with_reducible repeat' (first|rw[q00 (by omega)];try simp only[go_sem,hg,hn,k11,k21,k31,k41,w1,w2,w3,w4,w5,wq,qcq,hq,hq1,hn1,hn2,not_true_eq_false,decide_false]|refine br ?_ ?_<;>intro h e<;>(try simp only[e,go_sem,hg,hn,k11,k21,k31,k41,w1,w2,w3,w4,w5,wq,qcq,hq,hq1,hn1,hn2,not_true_eq_false,decide_false])<;>clear e|refine sd ?_<;>try simp only[go_sem,hg,hn,k11,k21,k31,k41,w1,w2,w3,w4,w5,wq,qcq,hq,hq1,hn1,hn2,not_true_eq_false,decide_false]|(first|refine cr (c72 _ (by omega)) ?_|refine cr (c1 ..) ?_|refine cr (c2 ..) ?_)<;>try simp only[go_sem,hg,hn,k11,k21,k31,k41,w1,w2,w3,w4,w5,wq,qcq,hq,hq1,hn1,hn2,not_true_eq_false,decide_false]|fail)
  exact⟨i+1,by omega,by omega,leN [] (by simp only[go_sem,e3];first|done|omega|rfl) (by simp only[go_sem]) (by simp[q0f]) (by simp only[go_sem])⟩
 ·simp only[eq_false h,go_sem]
  obtain rfl:i=fs.length:=by omega
  rw[List.take_length]
  with_reducible repeat' (first|refine br ?_ ?_<;>intro h e<;>(try simp only[e,go_sem])<;>clear e|rw[q00 (by omega)]|refine sd ?_<;>try simp only[go_sem]|fail)
  all_goals first|done|rfl
theorem c37 (m:Nat) (fs:List Flw) (k:Int) (hm:m≤1048576) (hl:fs.length≤1048576) (hk:0≤k∧k≤20000000000) (hb:∀f∈fs,ptB f):FnR Tryz.prog G 37 [.agg [.sl 3 ((mkS qa0 3 k m).map Pair.row),.sl 8 ((q54 (k+3*m) fs).map Flw.row)],.int .i64 k] (.int .i64 (q4v (k+3*m) fs)):=by
 refine mF dg37 Tryz.ntmps37 ?_
 have c1:=c75 m k hm (by omega)
 have c2:=c76 fs (k+3*m) hl (by omega) hb
 have hle:=q60 (k:=k+3*m) hb
 have n1:¬k+3*(m:Int)<0:=by omega
 have n2:¬q4v (k+3*m) fs<0:=by omega
 simp only[ic37,go_sem]
 with_reducible repeat' (first|refine br ?_ ?_<;>intro h e<;>(try simp only[e,go_sem,n1,n2])<;>clear e|rw[q00 (by omega)]|refine sd ?_<;>try simp only[go_sem,n1,n2]|(first|refine cr (c1 ..) ?_|refine cr (c2 ..) ?_)<;>try simp only[go_sem,n1,n2]|fail)
theorem c11 (w:M.World) (k:Int) (hs:smW w) (hk:0≤k∧k≤1000000000) (hb:∀f∈w.door.flows,ptB f):FnR Tryz.prog G 11 [.agg [.sl 10 ((mkW k w).convs.map Conv.row),.sl 3 ((mkW k w).door.map.map Pair.row),.sl 8 ((mkW k w).door.flows.map Flw.row),.sl 7 ((mkW k w).nets.map Pk.row)],.int .i64 k] (.int .i64 (qc0 k w)):=by
 obtain⟨⟨s1,_⟩,s2,⟨s3,_⟩,s4,_⟩:=hs
 refine mF dg11 Tryz.ntmps11 ?_
 have hle:=q60 (k:=k+10*w.convs.length+3*w.door.map.length) hb
 have c1:=c36 w.convs.length k s1 (by omega)
 have c2:=c37 w.door.map.length w.door.flows (k+10*w.convs.length) s2 s3 (by omega) hb
 have c3:=c38 w.nets.length (q4v (k+10*w.convs.length+3*w.door.map.length) w.door.flows) s4 (by omega)
 have n1:¬k+10*(w.convs.length:Int)<0:=by omega
 have n2:¬q4v (k+10*w.convs.length+3*w.door.map.length) w.door.flows<0:=by omega
 have n3:¬q4v (k+10*w.convs.length+3*w.door.map.length) w.door.flows+7*(w.nets.length:Int)<0:=by omega
 simp only[ic11,mkW,qc0,go_sem]
 with_reducible repeat' (first|refine br ?_ ?_<;>intro h e<;>(try simp only[e,go_sem,n1,n2,n3])<;>clear e|rw[q00 (by omega)]|refine sd ?_<;>try simp only[go_sem,n1,n2,n3]|(first|refine cr (c1 ..) ?_|refine cr (c2 ..) ?_|refine cr (c3 ..) ?_)<;>try simp only[go_sem,n1,n2,n3]|fail)
end Go.Proofs.YtpppoklkijmeoaaGreatDoor.W
namespace Go.Proofs.YtpppoklkijmeoaaGreatDoor.W
open Go Go.RowKit Go.Proofs Go.Proofs.YtpppoklkijmeoaaGreatDoor.VL Go.Proofs.YtpppoklkijmeoaaGreatDoor.M
structure At (h:Nat→Hs) (b:Nat) (w:M.World):Prop where
 c:h b=.arr 91 10 (w.convs.map Conv.row)
 m:h (b+1)=.arr 132 3 (w.door.map.map Pair.row)
 f:h (b+2)=.var 130 (frow (b+4) w.door.flows)
 n:h (b+3)=.arr 54 7 (w.nets.map Pk.row)
 p:FamAt h (b+4) w.door.flows
def WN (b:Nat) (w:M.World):List Nat:=[b,b+1,b+2,b+3]++qbd (b+4) w.door.flows
theorem q6m {b:Nat} {w:M.World} {x:Nat}:x∈WN b w↔b≤x∧x<b+4+2*w.door.flows.length:=by
 unfold WN
 rw[List.mem_append,q7p]
 simp only[List.mem_cons,List.not_mem_nil,or_false]
 omega
theorem q2e {b:Nat} {w:M.World} {l:List (Nat×Hs)} {x:Nat} (h:x<b∨b+4+2*w.door.flows.length≤x):q01 (WL b w++l) x=q01 l x:=by
 unfold WL
 simp only[List.cons_append,List.nil_append,List.append_assoc]
 rw[q01,if_neg (by omega),q01,if_neg (by omega),q01,if_neg (by omega),q01,if_neg (by omega),q31 (by omega)]
theorem q09 {b:Nat} {w:M.World} {l:List (Nat×Hs)} {x:Nat} (h:x<b):q01 (WL b w++l) x=q01 l x:=q2e (.inl h)
theorem q1y (b:Nat) (w:M.World) (l:List (Nat×Hs)):At (q01 (WL b w++l)) b w:=by
 unfold WL
 simp only[List.cons_append,List.nil_append,List.append_assoc]
 refine⟨by simp[q01],by simp[q01],by simp[q01],by simp[q01], ?_⟩
 exact q0n (by omega) (q0n (by omega) (q0n (by omega) (q0n (by omega) (q21 _ _ _))))
theorem q1g {b:Nat} {w:M.World} {k:Nat} {s:Hs} {l:List (Nat×Hs)} (hk:k<b∨b+4+2*w.door.flows.length≤k) (h:At (q01 l) b w):At (q01 ((k,s)::l)) b w :=
 ⟨by rw[q01,if_neg (by omega)];exact h.c,by rw[q01,if_neg (by omega)];exact h.m,by rw[q01,if_neg (by omega)];exact h.f,by rw[q01,if_neg (by omega)];exact h.n,q0n (by omega) h.p⟩
theorem q3n {b b':Nat} {w w':M.World} {l:List (Nat×Hs)} (hk:b+4+2*w.door.flows.length≤b'∨b'+4+2*w'.door.flows.length≤b) (h:At (q01 l) b w):At (q01 (WL b' w'++l)) b w:=by
 refine⟨by rw[q2e (by omega)];exact h.c,by rw[q2e (by omega)];exact h.m,by rw[q2e (by omega)];exact h.f,by rw[q2e (by omega)];exact h.n,λk f hf=>?_⟩
 have hk':=(List.getElem?_eq_some_iff.1 hf).1
 obtain⟨a,c⟩:=h.p k f hf
 exact⟨by rw[q2e (by omega)];exact a,by rw[q2e (by omega)];exact c⟩
theorem At.live {h:Nat→Hs} {b:Nat} {w:M.World} (a:At h b w) {x:Nat} (hx:x∈WN b w):(h x).live=true:=by
 obtain⟨h1,h2⟩:=q6m.1 hx
 by_cases h4:x<b+4
 ·rcases(show x=b∨x=b+1∨x=b+2∨x=b+3 by omega) with rfl|rfl|rfl|rfl
  ·rw[a.c];rfl
  ·rw[a.m];rfl
  ·rw[a.f];rfl
  ·rw[a.n];rfl
 ·obtain⟨j,rfl⟩:∃j,x=b+4+j:=⟨x - (b+4),by omega⟩
  exact a.p.live (by omega)
theorem At.wk {h h':Nat→Hs} {f:Nat→Nat} {b:Nat} {w:M.World} (a:At h b w):Wk (λc=>c∈WN b w) f h h' (WV b w) (.agg [.sl 10 (w.convs.map Conv.row),.sl 3 (w.door.map.map Pair.row),.sl 8 (w.door.flows.map Flw.row),.sl 7 (w.nets.map Pk.row)]):=by
 refine⟨rfl,λj v v' hv hv'=>?_⟩
 match j,hv,hv' with
 | 0,hv,hv' =>
   cases hv;cases hv'
   show Wk0 _ _ _ _ _ _
   rw[q5f,a.c]
   exact⟨⟨rfl,rfl⟩,by simp,q6m.2 (by omega)⟩
 | 1,hv,hv' =>
   cases hv;cases hv'
   show Wk0 _ _ _ _ _ _
   rw[q5f,a.m]
   exact⟨⟨rfl,rfl⟩,by simp,q6m.2 (by omega)⟩
 | 2,hv,hv' =>
   cases hv;cases hv'
   show Wk0 _ _ _ _ _ _
   rw[q8p,a.f]
   refine⟨qp9 λk g hg=>?_,by simp,q6m.2 (by omega)⟩
   have hk:=(List.getElem?_eq_some_iff.1 hg).1
   exact⟨a.p k g hg,q6m.2 (by omega),q6m.2 (by omega)⟩
 | 3,hv,hv' =>
   cases hv;cases hv'
   show Wk0 _ _ _ _ _ _
   rw[q5f,a.n]
   exact⟨⟨rfl,rfl⟩,by simp,q6m.2 (by omega)⟩
 | j+4,hv,_=>simp at hv
theorem q7m {F:Nat→Prop} {f:Nat→Nat} {h h':Nat→Hs}:∀ {vs:List V},vs.all V.nl=true→WkL (Wk F f h h') vs vs
 | [],_=>trivial
 | v::vs,hv=>by
   simp only[List.all_cons,Bool.and_eq_true] at hv
   exact⟨q8m hv.1,q7m hv.2⟩
theorem qni (w:M.World):(WH w).length=4+2*w.door.flows.length:=by simp[WH,q2u];omega
theorem qk4 (w:M.World) (s:Hs) (h:s∈WH w):s.plain=true:=by
 unfold WH at h
 rcases List.mem_append.1 h with h|h
 ·simp only[List.mem_cons,List.not_mem_nil,or_false] at h
  rcases h with rfl|rfl|rfl|rfl
  ·simp[Hs.plain,Conv.row,V.plain0]
  ·simp[Hs.plain,Pair.row,V.plain0]
  ·exact q9v _ _
  ·simp[Hs.plain,Pk.row,V.plain0]
 ·exact q99 _ _ h
theorem qj6 (dd:Nat) (w:M.World):q67 (bk [] 0 dd) 0 (WH w)=WL (100000+100*dd) w:=by
 have h:∀i,bk [] 0 dd i=100000+100*dd+i:=λi=>qgs (Nat.zero_le _)
 unfold WH WL
 simp only[List.cons_append,List.nil_append,q8d,qdi,qcu,h,zZ,Nat.reduceAdd,q1f,q0z,Nat.add_zero]
theorem qt6 (dd:Nat) (w:M.World):(WV 0 w).rn (bk [] 0 dd)=WV (100000+100*dd) w:=by
 have h:∀i,bk [] 0 dd i=100000+100*dd+i:=λi=>qgs (Nat.zero_le _)
 simp[WV,V.rn,V.rn2,V.rn1,V.rn0,h]
abbrev BN:Nat:=100000000
theorem qfm {w:M.World} {b dd m:Nat} (hb:BN≤b) (hd:BN≤100000+100*dd):∀x∈q1c [] (WN b w) dd m,BN≤x:=λx hx=>by
 simp only[q1c,List.nil_append,List.mem_append,List.mem_map] at hx
 rcases hx with hx|⟨j,_,rfl⟩
 ·have:=q6m.1 hx;omega
 ·simp only[q3u];omega
theorem q5w {dd m:Nat} (hd:BN≤100000+100*dd):∀x∈q1c [] [] dd m,BN≤x:=λx hx=>by
 simp only[q1c,List.nil_append,List.mem_map] at hx
 obtain⟨j,_,rfl⟩:=hx
 simp only[q3u];omega
theorem q5u {b:Bool} {tc wr T T':List Nat} (hT:∀x∈T,BN≤x) (hT':∀x∈T',BN≤x) (h:((tc.all λx=>decide (x<BN))&&wr.all λx=>decide (x<BN))=true):(b||(qbo T' tc&&qbo wr T))=true:=by
 rw[Bool.and_eq_true,List.all_eq_true,List.all_eq_true] at h
 rw[qad λx hx hx2=>by have:=hT' x hx;have:=h.1 x hx2;simp only[decide_eq_true_eq] at this;omega,qad λx hx hx2=>by have:=hT x hx2;have:=h.2 x hx;simp only[decide_eq_true_eq] at this;omega]
 simp
theorem q2d {b:Bool} {tc wr T:List Nat} (hT:∀x∈T,BN≤x) (h:((tc.all λx=>decide (x<BN))&&wr.all λx=>decide (x<BN))=true):(b||(qbo [] tc&&qbo wr T))=true:=q5u hT (λx hx=>by cases hx) h
theorem q68 {b c:Bool} (h:b=true):(b||c)=true:=by rw[h];rfl
section
variable {P:Program} {G:Glob} {f:FuncId} {w u:M.World} {args:List V} {v:V} {d:Option Nat} {st:St} {K:St→List Nat→List Nat→Prop} {b:Nat}
theorem q8x (F:FnR P G f ((.agg [.sl 10 (w.convs.map Conv.row),.sl 3 (w.door.map.map Pair.row),.sl 8 (w.door.flows.map Flw.row),.sl 7 (w.nets.map Pk.row)])::args) v) (h:At st.h b w) (hb:BN≤b) (ha:args.all V.nl=true) (hv:v.nl=true) (hp:v.plain=true) (hK:∀tc,(∀x∈tc,BN≤x)→K (st.app d v []) tc []):CallV P G f (WV b w::args) d st K :=
 q34 F (WN b w) false ⟨h.wk,q7m ha⟩ (λc hc=>h.live hc) hv (.inr hp) (hK _ λx hx=>by have:=q6m.1 hx;omega)
theorem newC {vs:List V} (F:FnP P G f 0 [] vs λr o=>r=WV 0 u∧o=WH u) (dd:Nat) (hd:BN≤100000+100*dd) (ha:vs.all V.nl=true) (hfr:∀i,i<4+2*u.door.flows.length→st.h (q3u dd i)=.fresh)
 (hK:∀tc tc',(∀x∈tc,BN≤x)→(∀x∈tc',BN≤x)→K (st.app d (WV (100000+100*dd) u) (WL (100000+100*dd) u)) tc tc'):CallV P G f vs d st K:=by
 refine q1k F [] [] true dd (4+2*u.door.flows.length) (q7m ha) trivial (Nat.zero_le _) List.nodup_nil (λc hc=>by cases hc) ?_ hfr ?_
 ·rintro _ _ ⟨rfl,rfl⟩
  exact⟨Nat.zero_le _,by rw[qni];exact Nat.le_refl _,.inl rfl,λi hi=>absurd hi (Nat.not_lt_zero _)⟩
 ·rintro _ _ ⟨rfl,rfl⟩
  rw[qt6,qj6]
  simp only[List.drop_nil,cond_true,List.append_nil,q6o]
  exact hK _ _ (q5w hd) (q5w hd)
theorem newW (F:FnP P G f 0 [] ((.agg [.sl 10 (w.convs.map Conv.row),.sl 3 (w.door.map.map Pair.row),.sl 8 (w.door.flows.map Flw.row),.sl 7 (w.nets.map Pk.row)])::args) λr o=>r=WV 0 u∧o=WH u) (dd:Nat) (h:At st.h b w) (hb:BN≤b) (hd:BN≤100000+100*dd) (ha:args.all V.nl=true) (hfr:∀i,i<4+2*u.door.flows.length→st.h (q3u dd i)=.fresh)
 (hK:∀tc tc',(∀x∈tc,BN≤x)→(∀x∈tc',BN≤x)→K (st.app d (WV (100000+100*dd) u) (WL (100000+100*dd) u)) tc tc'):CallV P G f (WV b w::args) d st K:=by
 refine q1k F [] (WN b w) false dd (4+2*u.door.flows.length) ⟨h.wk,q7m ha⟩ trivial (Nat.zero_le _) List.nodup_nil (λc hc=>⟨h.live hc,by simp⟩) ?_ hfr ?_
 ·rintro _ _ ⟨rfl,rfl⟩
  exact⟨Nat.zero_le _,by rw[qni];exact Nat.le_refl _,.inr ⟨rfl,qk4 u⟩,λi hi=>absurd hi (Nat.not_lt_zero _)⟩
 ·rintro _ _ ⟨rfl,rfl⟩
  rw[qt6,qj6]
  simp only[List.drop_nil,cond_false,List.append_nil,q6o]
  exact hK _ _ (qfm hb hd) (q5w hd)
theorem qg1 {a:V} (F:FnP P G f (4+2*w.door.flows.length) (WH w) [WV 0 w,a] λr o=>r=v∧o=WH u) (dd:Nat) (h:At st.h b w) (hc:u.convs.length=w.convs.length) (hm:u.door.map.length=w.door.map.length) (hn:u.nets.length=w.nets.length) (hf:u.door.flows.length=w.door.flows.length)
 (hsf:∀(j:Nat) x y,w.door.flows[j]?=some x→u.door.flows[j]?=some y→x.up.parts.length≤y.up.parts.length∧x.down.parts.length≤y.down.parts.length) (ha:a.nl=true) (hv:v.nl=true)
 (hfr:∀i,i<4+2*w.door.flows.length→st.h (q3u dd i)=.fresh) (hK:∀tc tc',K (st.app d v (WL b u)) tc tc'):CallV P G f [WV b w,a] d st K:=by
 refine qd8 (O:=[.arr 91 10 (w.convs.map Conv.row),.arr 132 3 (w.door.map.map Pair.row),.var 130 (frow 4 w.door.flows),.arr 54 7 (w.nets.map Pk.row)]) (O':=[.arr 91 10 (u.convs.map Conv.row),.arr 132 3 (u.door.map.map Pair.row),.var 130 (frow 4 u.door.flows),.arr 54 7 (u.nets.map Pk.row)]) (gs:=w.door.flows) (gs':=u.door.flows) (k:=4)
  F (b+4) [b,b+1,b+2,b+3] dd rfl rfl rfl hf (λg h' hg hh=>?_) (λi hi=>⟨?_,λg h' hg hh hj=>?_⟩) h.p (by simp) (by simp) (λi hi=>?_) hsf hfr hv (λg tc tc' hg he=>?_)
 ·refine⟨⟨rfl,λj x y hx hy=>?_⟩,q8m ha,trivial⟩
  match j,hx,hy with
  | 0,hx,hy=>cases hx;cases hy;exact⟨hg 0 (by decide),rfl,by rw[hh 0 (by decide)];simp[chH]⟩
  | 1,hx,hy=>cases hx;cases hy;exact⟨hg 1 (by decide),rfl,by rw[hh 1 (by decide)];simp[chH]⟩
  | 2,hx,hy=>cases hx;cases hy;exact⟨hg 2 (by decide),rfl,rfl,by rw[hh 2 (by decide)];simp[chH]⟩
  | 3,hx,hy=>cases hx;cases hy;exact⟨hg 3 (by decide),rfl,by rw[hh 3 (by decide)];simp[chH]⟩
  | j+4,hx,_=>simp at hx
 ·rcases(show i=0∨i=1∨i=2∨i=3 by omega) with rfl|rfl|rfl|rfl<;>rfl
 ·rcases(show i=0∨i=1∨i=2∨i=3 by omega) with rfl|rfl|rfl|rfl
  ·show WkH _ g st.h h' (st.h b) _
   rw[h.c];exact⟨rfl,rfl,rfl⟩
  ·show WkH _ g st.h h' (st.h (b+1)) _
   rw[h.m];exact⟨rfl,rfl,rfl⟩
  ·show WkH _ g st.h h' (st.h (b+2)) _
   rw[h.f];exact⟨rfl,by rw[q0p,q0p],λj x y hx hy=>q2r (λj hj'=>hj j hj') hx hy⟩
  ·show WkH _ g st.h h' (st.h (b+3)) _
   rw[h.n];exact⟨rfl,rfl,rfl⟩
 ·rcases(show i=0∨i=1∨i=2∨i=3 by omega) with rfl|rfl|rfl|rfl<;>simp[chH,q0h,hc,hm,hn]
 ·have e:q67 g 0 [.arr 91 10 (u.convs.map Conv.row),.arr 132 3 (u.door.map.map Pair.row),.var 130 (frow 4 u.door.flows),.arr 54 7 (u.nets.map Pk.row)]++q2x (b+4) u.door.flows=WL b u:=by
   have g0:g 0=b:=hg 0 (by decide)
   have g1:g 1=b+1:=hg 1 (by decide)
   have g2:g 2=b+2:=hg 2 (by decide)
   have g3:g 3=b+3:=hg 3 (by decide)
   unfold WL
   simp only[q8d,qez,qdi,qcu,he,zZ,Nat.reduceAdd,g0,g1,g2,g3]
  rw[e]
  exact hK _ _
end
theorem smF {f:Flw} (h:q9r f):ptB f:=⟨h.1.2.1,h.2.2.1⟩
theorem qlt {w:M.World} (h:smW w):WS w:=by
 obtain⟨⟨h1,h2⟩,h3,⟨h4,h5⟩,h6,h7⟩:=h
 refine⟨by omega,λc hc=>?_,⟨by omega,by omega,λf hf=>?_⟩,by omega,λp hp=>?_⟩
 ·have:=h2 c hc
  unfold qex at this
  omega
 ·obtain⟨⟨a1,a2,a3⟩,b1,b2,b3⟩:=h5 f hf
  exact⟨⟨by omega,by omega,λp hp=>by have:=a3 p hp;unfold q5p at this;omega⟩,by omega,by omega,λp hp=>by have:=b3 p hp;unfold q5p at this;omega⟩
 ·have:=h7 p hp
  unfold qc8 at this
  omega
theorem qx1 {X:List (E×E)} {w:M.World} (h:WX X w):smW w:=by
 obtain⟨hdm,hdf,_⟩:=q0c.1 h.door
 have hm:=(q0b hdm).2
 have hcl:=h.cl
 have hnl:=h.nl
 refine⟨⟨by omega,λc hc=>?_⟩,by omega,⟨by omega,λf hf=>?_⟩,by omega,λp hp=>?_⟩
 ·have:=q26 (h.cv c hc)
  have h1:=this.up;have h2:=this.down;have h3:=this.upGot;have h4:=this.downGot
  unfold qex
  omega
 ·obtain⟨k,hk⟩:=List.mem_iff_getElem?.1 hf
  obtain⟨_,_,h1,h2,_⟩:=q2n h.door hk
  obtain⟨a1,a2,a3⟩:=q0t h1
  obtain⟨b1,b2,b3⟩:=q0t h2
  exact⟨⟨by omega,by omega,λp hp=>by have:=a3 p hp;unfold q5p;omega⟩,by omega,by omega,λp hp=>by have:=b3 p hp;unfold q5p;omega⟩
 ·have:=(h.net p hp).pk.len
  unfold qc8
  omega
theorem q7o {w:M.World} (hb:∀f∈w.door.flows,ptB f):¬qc0 1 w<0:=by
 have:=(q60 (k:=1+10*(w.convs.length:Int)+3*w.door.map.length) hb).1
 unfold qc0
 omega
theorem qdy (k:Int) (w:M.World):(mkW k w).door.flows.length=w.door.flows.length:=q19 ..
abbrev wpV (w:M.World):V:=.agg [.sl 10 (w.convs.map Conv.row),.sl 3 (w.door.map.map Pair.row),.sl 8 (w.door.flows.map Flw.row),.sl 7 (w.nets.map Pk.row)]
abbrev evV (e:Ev):V:=.agg [.int .i64 e.kind,.int .i64 e.a,.int .i64 e.b,.int .i64 e.c,.int .i64 e.pkt.kind,.int .i64 e.pkt.frm.a,.int .i64 e.pkt.frm.p,.int .i64 e.pkt.to.a,.int .i64 e.pkt.to.p,.int .i64 e.pkt.at_,.str e.pkt.text]
theorem qk2 {P:Program} {G:Glob} {f:FuncId} {w:M.World} {k:Int} {args:List V} {v:V} {d:Option Nat} {st:St} {K:St→List Nat→List Nat→Prop} {b:Nat} (F:FnR P G f ((.agg [.sl 10 ((mkW k w).convs.map Conv.row),.sl 3 ((mkW k w).door.map.map Pair.row),.sl 8 ((mkW k w).door.flows.map Flw.row),.sl 7 ((mkW k w).nets.map Pk.row)])::args) v) (h:At st.h b (mkW k w)) (hb:BN≤b) (ha:args.all V.nl=true) (hv:v.nl=true) (hp:v.plain=true) (hK:∀tc,(∀x∈tc,BN≤x)→K (st.app d v []) tc []):CallV P G f (WV b w::args) d st K:=by
 have e:WV b w=WV b (mkW k w):=by simp[WV,mkW,q0o,q19]
 rw[e]
 exact q8x F h hb ha hv hp hK
end Go.Proofs.YtpppoklkijmeoaaGreatDoor.W
