/- FnExactWorldPlay: the program's play of a world returns what the reference's returns, in rows of its own, and leaves what it was given. Conditions: those of the row alone. -/
import Derived.Test.YtpnekhiejecipaaGreatDoorQ05
import Derived.Test.YtpnekhiejecipaaGreatDoorQ06
import Derived.Test.YtpnekhiejecipaaGreatDoorQ04
import Derived.Lay
import Derived.Test.YtpnekhiejecipaaGreatDoorCards
import Derived.Test.YtpnekhiejecipaaGreatDoorTie
set_option linter.all false
namespace Go.Proofs.YtpnekhiejecipaaGreatDoor.W
open Go Go.RowKit Go.Proofs Go.Proofs.YtpnekhiejecipaaGreatDoor.VL Go.Proofs.YtpnekhiejecipaaGreatDoor.M
attribute [local go_sem] q2w qe0
attribute [local go_sem] btt bff
theorem pl_c (t n:Nat) (l:List Conv):(Hs.arr t n (l.map Conv.row)).plain=true:=by simp[Hs.plain,Conv.row,V.plain0]
theorem pl_p (t n:Nat) (l:List Pair):(Hs.arr t n (l.map Pair.row)).plain=true:=by simp[Hs.plain,Pair.row,V.plain0]
theorem pl_k (t n:Nat) (l:List Pk):(Hs.arr t n (l.map Pk.row)).plain=true:=by simp[Hs.plain,Pk.row,V.plain0]
theorem pl_t (t n:Nat) (l:List Part):(Hs.arr t n (l.map Part.row)).plain=true:=by simp[Hs.plain,Part.row,V.plain0]
theorem ptB_of {w:M.World} (hw:WI w):∀f∈w.door.flows,ptB f:=λf hf=>by
 obtain⟨k,hk⟩:=List.mem_iff_getElem?.1 hf
 obtain⟨_,_,h1,h2,_⟩:=q1u hw.door hk
 have:=(q0k h1).2.1
 have:=(q0k h2).2.1
 exact⟨by omega,by omega⟩
def ic3:IC:=sR [oP 4 (.mv cF)] (sR [oP 5 (.mv (cI 1048576))] (sR [mV 17 0,mV 18 5,oP 19 (.call 5 [.t 17,.t 18]),mV 5 19] (.seq (sR [mV 20 5,oP 21 (.bin .lss (.t 20) (.c i0))] (cD 21 (sR [oP 4 (.mv cT)] .ret) .skip)) (sR [mV 22 1,mV 23 5,oP 24 (.call 6 [.t 22,.t 23]),mV 5 24] (.seq (sR [mV 25 5,oP 26 (.bin .lss (.t 25) (.c i0))] (cD 26 (sR [oP 4 (.mv cT)] .ret) .skip)) (sR [mV 28 0,oP 29 (.call 8 [.t 28]),mV 30 1,oP 31 (.call 9 [.t 30]),oP 32 (.call 7 [.t 29,.t 31]),mV 27 32,eX 33 27 0,eX 34 27 1,oP 6 (.alloc 33 [.nils,.nils,.nils,.nils]),nP (.sto 4 (.t 6) (.t 33)),mV 7 34] (sR [mV 35 0,oP 36 (.call 8 [.t 35]),mV 8 36] (sR [mV 37 1,oP 38 (.call 9 [.t 37]),mV 9 38] (sR [mV 40 8,mV 41 9,oP 42 (.call 10 [.t 40,.t 41]),mV 39 42,eX 43 39 0,eX 44 39 1,oP 10 (.alloc 33 [.nils,.nils,.nils,.nils]),nP (.sto 4 (.t 10) (.t 43)),mV 11 44] (.seq (sR [lA 45 4 10,lA 46 4 6,oP 47 (.call 11 [.t 45,.t 46]),oP 48 (.un .not (.t 47)),mV 49 48,gF 50 49 (.mv (.t 11)),gF 51 49 (.mv (.t 7)),gF 52 49 (.beq true (.t 50) (.t 51)),pT 53 49 52] (cD 53 (sR [oP 4 (.mv cF)] .ret) .skip)) (.seq (sR [mV 54 8,mV 55 0,oP 56 (.call 8 [.t 55]),oP 57 (.call 12 [.t 54,.t 56]),oP 58 (.un .not (.t 57))] (cD 58 (sR [oP 4 (.mv cF)] .ret) .skip)) (.seq (sR [mV 59 9,mV 60 1,oP 61 (.call 9 [.t 60]),oP 62 (.call 13 [.t 59,.t 61]),oP 63 (.un .not (.t 62))] (cD 63 (sR [oP 4 (.mv cF)] .ret) .skip)) (sR [oP 12 (.mv (cI 1))] (sR [mV 64 8,mV 65 12,oP 66 (.call 14 [.t 64,.t 65]),mV 12 66] (sR [mV 67 9,mV 68 12,oP 69 (.call 15 [.t 67,.t 68]),mV 12 69] (.seq (sR [mV 70 12,oP 71 (.bin .lss (.t 70) (.c i0)),mV 72 71,gF 73 72 (.ld 4 true (.t 10)),gF 74 72 (.ld 4 true (.t 6)),gF 75 72 (.call 11 [.t 73,.t 74]),gF 76 72 (.un .not (.t 75)),pT 77 72 76,mV 78 77,gF 79 78 (.mv (.t 11)),gF 80 78 (.mv (.t 7)),gF 81 78 (.beq true (.t 79) (.t 80)),pT 82 78 81] (cD 82 (sR [oP 4 (.mv cF)] .ret) .skip)) (sR [oP 13 (.mv (cI 1))] (sR [lA 83 4 10,mV 84 13,oP 85 (.call 16 [.t 83,.t 84]),mV 13 85] (sR [oP 14 (.mv (cI 1))] (sR [lA 86 4 10,mV 87 14,oP 88 (.call 17 [.t 86,.t 87]),mV 14 88] (.seq (sR [mV 89 14,oP 90 (.bin .lss (.t 89) (.c i0))] (cD 90 (sR [oP 4 (.mv cF)] .ret) .skip)) (.seq (sR [mV 91 14,mV 92 13,bN 93 .neq 91 92] (cD 93 (sR [oP 4 (.mv cF)] .ret) .skip)) (sR [mV 95 0,oP 96 (.call 8 [.t 95]),mV 97 1,oP 98 (.call 9 [.t 97]),oP 99 (.call 10 [.t 96,.t 98]),mV 94 99,eX 100 94 0,eX 101 94 1,oP 15 (.alloc 33 [.nils,.nils,.nils,.nils]),nP (.sto 4 (.t 15) (.t 100)),mV 16 101] (.seq (sR [lA 102 4 15,lA 103 4 6,oP 104 (.call 11 [.t 102,.t 103]),oP 105 (.un .not (.t 104)),mV 106 105,gF 107 106 (.mv (.t 16)),gF 108 106 (.mv (.t 7)),gF 109 106 (.beq true (.t 107) (.t 108)),pT 110 106 109] (cD 110 (sR [oP 4 (.mv cF)] .ret) .skip)) (sR [oP 14 (.mv (cI 1))] (sR [lA 111 4 10,mV 112 14,oP 113 (.call 17 [.t 111,.t 112]),mV 14 113] (.seq (sR [mV 114 14,oP 115 (.bin .lss (.t 114) (.c i0))] (cD 115 (sR [oP 4 (.mv cF)] .ret) .skip)) (.seq (sR [mV 116 14,mV 117 13,bN 118 .neq 116 117] (cD 118 (sR [oP 4 (.mv cF)] .ret) .skip)) (sR [oP 4 (.mv cT)] .ret)))))))))))))))))))))))))))))
theorem dg3:Dg Tryz.prog 3 Tryz.f3 ic3 [(.t 4)]:=⟨Tryz.func3,by kernel_rfl,by kernel_rfl⟩
set_option maxHeartbeats 8000000 in
theorem c3 (cs:List Conv) (es:List Ev) (hl0:(cs.length:Int)≤9223372036854775807) (hl1:(es.length:Int)≤9223372036854775807) (hb0:∀a∈cs,qp1 a) (hb1:∀a∈es,qoz a):FnR Tryz.prog G 3 [.sl 10 (cs.map Conv.row),.sl 11 (es.map Ev.row)] (.bool true):=by
 refine mF dg3 Tryz.ntmps3 ?_
 have c1:=c5 cs 1048576 hl0 hb0 (by omega)
 simp only[ic3,go_sem]
 by_cases h1:szS szC 1048576 cs<0
 ·with_reducible repeat' (first|refine br ?_ ?_<;>intro h e<;>(try simp only[e,go_sem,eq_true h1])<;>clear e|rw[q01 (by omega)]|refine sd ?_<;>try simp only[go_sem,eq_true h1]|(first|refine cr (c1 ..) ?_)<;>try simp only[go_sem,eq_true h1]|fail)
 obtain⟨a1,a2,a3⟩:=ql8 (show 0≤szS szC 1048576 cs by omega)
 have c2:=c6 es (szS szC 1048576 cs) hl1 hb1 (by omega)
 by_cases h2:szS szE (szS szC 1048576 cs) es<0
 ·with_reducible repeat' (first|refine br ?_ ?_<;>intro h e<;>(try simp only[e,go_sem,eq_false h1,eq_true h2])<;>clear e|rw[q01 (by omega)]|refine sd ?_<;>try simp only[go_sem,eq_false h1,eq_true h2]|(first|refine cr (c1 ..) ?_|refine cr (c2 ..) ?_)<;>try simp only[go_sem,eq_false h1,eq_true h2]|fail)
 obtain⟨b1,b2,b3⟩:=qlv (show 0≤szS szE (szS szC 1048576 cs) es by omega)
 with_reducible repeat' (first|refine br ?_ ?_<;>intro h e<;>(try simp only[e,go_sem,eq_false h1,eq_false h2])<;>clear e|rw[q01 (by omega)]|refine sd ?_<;>try simp only[go_sem,eq_false h1,eq_false h2]|(first|refine cr (c1 ..) ?_|refine cr (c2 ..) ?_)<;>try simp only[go_sem,eq_false h1,eq_false h2]|fail)
 have hcB:∀c∈cs,c.up.length≤2000000∧c.down.length≤2000000:=λc hc=>by have:=a3 c hc;omega
 have heB:∀e∈es,e.pkt.text.length≤2000000:=λe he=>by have:=b3 e he;omega
 have hcl:cs.length≤1048576:=by omega
 have hel:es.length≤1048576:=by omega
 clear h1 h2 a1 a2 a3 b1 b2 b3 c1 c2
 refine q0t (c8 cs hcl) [] 29 1 (by simp only[go_sem];first|done|simp) (by simp) (by rintro _ _ ⟨rfl,rfl⟩;simp) (by intro i hi;obtain rfl:i=0:=(by omega);simp only[go_sem]) ?_
 rintro _ _ ⟨rfl,rfl⟩
 simp only[go_sem]
 refine q0t (c9 es hel) [] 31 1 (by simp only[go_sem];first|done|simp) (by simp) (by rintro _ _ ⟨rfl,rfl⟩;simp) (by intro i hi;obtain rfl:i=0:=(by omega);simp only[go_sem]) ?_
 rintro _ _ ⟨rfl,rfl⟩
 simp only[go_sem]
 refine q0t (c7 cs es hcl hcB hel heB) [102900,103100] 32 4 (by simp only[go_sem];first|done|simp) (by simp only[List.mem_cons,List.not_mem_nil,or_false];rintro c (rfl|rfl)<;>simp only[go_sem]) (by rintro _ _ (⟨w,_,rfl,rfl⟩|⟨_,rfl,rfl⟩)<;>simp) (by intro i hi;rcases(show i=0∨i=1∨i=2∨i=3 by omega) with rfl|rfl|rfl|rfl<;>simp only[go_sem]) ?_
 intro r0 o0 hQ0
 obtain⟨ro,hro⟩:∃ro,q0d cs es=ro:=⟨_,rfl⟩
 have p2:=c10 cs es hcl hcB hel heB
 have n0:¬(1+10*(cs.length:Int)+11*(es.length:Int)<0):=by omega
 rw[hro] at p2
 rcases hQ0 with⟨w0,hw0,rfl,rfl⟩|⟨hw0,rfl,rfl⟩
 rotate_left
 ·obtain rfl:ro=none:=by rw[←hro];exact hw0
  simp only[go_sem]
  refine q0t (c8 cs hcl) [] 36 1 (by simp only[go_sem];first|done|simp) (by simp) (by rintro _ _ ⟨rfl,rfl⟩;simp) (by intro i hi;obtain rfl:i=0:=(by omega);simp only[go_sem]) ?_
  rintro _ _ ⟨rfl,rfl⟩
  simp only[go_sem]
  refine q0t (c9 es hel) [] 38 1 (by simp only[go_sem];first|done|simp) (by simp) (by rintro _ _ ⟨rfl,rfl⟩;simp) (by intro i hi;obtain rfl:i=0:=(by omega);simp only[go_sem]) ?_
  rintro _ _ ⟨rfl,rfl⟩
  simp only[go_sem]
  refine q0f (n10 cs es hcl hcB hel heB) [] [103600,103800] false 42 8 (by simp only[go_sem];first|done|simp) (by simp only[go_sem]) (by simp) (by simp) (by simp only[List.mem_cons,List.not_mem_nil,or_false];rintro c (rfl|rfl)<;>exact⟨by simp only[go_sem],by simp⟩) ?_ (by intro i hi;rcases(show i=0∨i=1∨i=2∨i=3∨i=4∨i=5∨i=6∨i=7 by omega) with rfl|rfl|rfl|rfl|rfl|rfl|rfl|rfl<;>simp only[go_sem]) ?_
  ·rintro _ _ (⟨_,rfl,rfl⟩|⟨w,r0,_,_,rfl,⟨_,rfl,rfl⟩|⟨f,_,rfl,rfl⟩|⟨f,g,_,rfl,rfl⟩⟩)
   ·exact⟨by simp,by simp,.inr ⟨rfl,by simp⟩,λi hi=>absurd hi (Nat.not_lt_zero _)⟩
   all_goals exact⟨by simp,by simp,.inr ⟨rfl,by simp only[List.mem_cons,List.not_mem_nil,or_false];rintro s (rfl|rfl|rfl|rfl|rfl|rfl|rfl|rfl)<;>first|exact pl_c _ _ _|exact pl_p _ _ _|exact pl_k _ _ _|exact pl_t _ _ _|rfl⟩,λi hi=>absurd hi (Nat.not_lt_zero _)⟩
  rintro _ _ (⟨_,rfl,rfl⟩|⟨w,r0,hw,_⟩)
  rotate_left
  ·rw[hw0] at hw;cases hw
  have ez:=c11 .zero (by simp[q67]) (by simp[q67]) (by simp[q67]) (by simp[q67]) (by simp[q67])
  simp only[q67,List.map_nil] at ez
  simp only[Option.isSome_none,Option.getD_none,q67,List.map_nil] at p2
  simp only[go_sem]
  refine q0l (ez) [] false (by simp only[go_sem];first|done|simp) (by simp) rfl (.inr rfl) ?_
  simp only[go_sem]
  refine q0t (c8 cs hcl) [] 56 1 (by simp only[go_sem];first|done|simp) (by simp) (by rintro _ _ ⟨rfl,rfl⟩;simp) (by intro i hi;obtain rfl:i=0:=(by omega);simp only[go_sem]) ?_
  rintro _ _ ⟨rfl,rfl⟩
  simp only[go_sem]
  refine q0l (c12 cs (by omega)) [103600,105600] false (by simp only[go_sem];first|done|simp) (by simp only[List.mem_cons,List.not_mem_nil,or_false];rintro c (rfl|rfl)<;>simp only[go_sem]) rfl (.inr rfl) ?_
  simp only[go_sem]
  refine q0t (c9 es hel) [] 61 1 (by simp only[go_sem];first|done|simp) (by simp) (by rintro _ _ ⟨rfl,rfl⟩;simp) (by intro i hi;obtain rfl:i=0:=(by omega);simp only[go_sem]) ?_
  rintro _ _ ⟨rfl,rfl⟩
  simp only[go_sem]
  refine q0l (c13 es (by omega)) [103800,106100] false (by simp only[go_sem];first|done|simp) (by simp only[List.mem_cons,List.not_mem_nil,or_false];rintro c (rfl|rfl)<;>simp only[go_sem]) rfl (.inr rfl) ?_
  simp only[go_sem]
  refine q0f (c14 cs 1 hcl (by omega)) [103600] [] true 66 1 (by simp only[go_sem];first|done|simp) (by simp only[go_sem];first|done|simp) (by simp) (by simp) (by simp) ?_ ?_ ?_
  ·rintro _ _ ⟨rfl,rfl⟩
   exact⟨by simp,by simp,.inl rfl,λi hi=>by obtain rfl:i=0:=(by omega);(simp[chH,q07,q02,q00];try omega)⟩
  ·intro i hi;obtain rfl:i=0:=(by omega);simp only[go_sem]
  rintro _ _ ⟨rfl,rfl⟩
  simp only[go_sem]
  refine q0f (c15 es (1+10*cs.length) hel (by omega)) [103800] [] true 69 1 (by simp only[go_sem,n0];first|done|simp) (by simp only[go_sem,n0];first|done|simp) (by simp) (by simp) (by simp) ?_ ?_ ?_
  ·rintro _ _ ⟨rfl,rfl⟩
   exact⟨by simp,by simp,.inl rfl,λi hi=>by obtain rfl:i=0:=(by omega);(simp[chH,q07,q02,q00];try omega)⟩
  ·intro i hi;obtain rfl:i=0:=(by omega);simp only[go_sem]
  rintro _ _ ⟨rfl,rfl⟩
  simp only[go_sem,n0]
  refine q0l (ez) [] false (by simp only[go_sem];first|done|simp) (by simp) rfl (.inr rfl) ?_
  simp only[go_sem]
  refine q0l (z16 1) [] false (by simp only[go_sem];first|done|simp) (by simp) rfl (.inr rfl) ?_
  simp only[go_sem]
  refine q0l (z17 1 (by omega)) [] false (by simp only[go_sem];first|done|simp) (by simp) rfl (.inr rfl) ?_
  simp only[go_sem]
  refine q0t (c8 cs hcl) [] 96 1 (by simp only[go_sem];first|done|simp) (by simp) (by rintro _ _ ⟨rfl,rfl⟩;simp) (by intro i hi;obtain rfl:i=0:=(by omega);simp only[go_sem]) ?_
  rintro _ _ ⟨rfl,rfl⟩
  simp only[go_sem]
  refine q0t (c9 es hel) [] 98 1 (by simp only[go_sem];first|done|simp) (by simp) (by rintro _ _ ⟨rfl,rfl⟩;simp) (by intro i hi;obtain rfl:i=0:=(by omega);simp only[go_sem]) ?_
  rintro _ _ ⟨rfl,rfl⟩
  simp only[go_sem]
  refine q0l (p2) [109600,109800] true (by simp only[go_sem];first|done|simp) (by simp only[List.mem_cons,List.not_mem_nil,or_false];rintro c (rfl|rfl)<;>simp only[go_sem]) rfl (.inl rfl) ?_
  simp only[go_sem]
  refine q0l (ez) [] false (by simp only[go_sem];first|done|simp) (by simp) rfl (.inr rfl) ?_
  simp only[go_sem]
  refine q0l (z17 1 (by omega)) [] false (by simp only[go_sem];first|done|simp) (by simp) rfl (.inr rfl) ?_
  simp only[go_sem]
 ·obtain rfl:ro=some w0:=by rw[←hro];exact hw0
  simp only[go_sem]
  refine q0t (c8 cs hcl) [] 36 1 (by simp only[go_sem];first|done|simp) (by simp) (by rintro _ _ ⟨rfl,rfl⟩;simp) (by intro i hi;obtain rfl:i=0:=(by omega);simp only[go_sem]) ?_
  rintro _ _ ⟨rfl,rfl⟩
  simp only[go_sem]
  refine q0t (c9 es hel) [] 38 1 (by simp only[go_sem];first|done|simp) (by simp) (by rintro _ _ ⟨rfl,rfl⟩;simp) (by intro i hi;obtain rfl:i=0:=(by omega);simp only[go_sem]) ?_
  rintro _ _ ⟨rfl,rfl⟩
  simp only[go_sem]
  refine q0f (n10 cs es hcl hcB hel heB) [] [103600,103800] false 42 8 (by simp only[go_sem];first|done|simp) (by simp only[go_sem]) (by simp) (by simp) (by simp only[List.mem_cons,List.not_mem_nil,or_false];rintro c (rfl|rfl)<;>exact⟨by simp only[go_sem],by simp⟩) ?_ (by intro i hi;rcases(show i=0∨i=1∨i=2∨i=3∨i=4∨i=5∨i=6∨i=7 by omega) with rfl|rfl|rfl|rfl|rfl|rfl|rfl|rfl<;>simp only[go_sem]) ?_
  ·rintro _ _ (⟨_,rfl,rfl⟩|⟨w,r0,_,_,rfl,⟨_,rfl,rfl⟩|⟨f,_,rfl,rfl⟩|⟨f,g,_,rfl,rfl⟩⟩)
   ·exact⟨by simp,by simp,.inr ⟨rfl,by simp⟩,λi hi=>absurd hi (Nat.not_lt_zero _)⟩
   all_goals exact⟨by simp,by simp,.inr ⟨rfl,by simp only[List.mem_cons,List.not_mem_nil,or_false];rintro s (rfl|rfl|rfl|rfl|rfl|rfl|rfl|rfl)<;>first|exact pl_c _ _ _|exact pl_p _ _ _|exact pl_k _ _ _|exact pl_t _ _ _|rfl⟩,λi hi=>absurd hi (Nat.not_lt_zero _)⟩
  rintro _ _ (⟨hw,_⟩|⟨w,r0,hw,hwi,rfl,hfl⟩)
  ·rw[hw0] at hw;cases hw
  obtain rfl:w=w0:=by rw[hw0] at hw;cases hw;rfl
  simp only[Option.isSome_some,Option.getD_some] at p2
  have hnl:=hwi.nl
  have hcv:=hwi.cl
  have hml:=(q0c (q0i.1 hwi.door).1).2
  have hf2:=hwi.flows2
  have hpt:=ptB_of hwi
  have ew:=c11 w (by omega) (by omega) (by omega) (by omega) hpt
  rcases hfl with⟨hfs,rfl,rfl⟩|⟨f,hfs,rfl,rfl⟩|⟨f,g,hfs,rfl,rfl⟩
  ·have nE:¬1+10*(w.convs.length:Int)+3*(w.door.map.length:Int)+7*(w.nets.length:Int)<0:=by
    (try simp only[flE]);omega
   simp only[go_sem]
   refine q0f (n011 w hfs (by omega) (by omega) (by omega)) [104200,104201,104202,104203] [103200,103201,103202,103203] false 47 4 (by simp only[go_sem];first|done|simp) (by simp only[go_sem];first|done|simp) (by simp) (by simp) (by simp only[List.mem_cons,List.not_mem_nil,or_false];rintro c (rfl|rfl|rfl|rfl)<;>exact⟨by simp only[go_sem],by simp⟩) ?_ ?_ ?_
   ·rintro _ _ ⟨rfl,rfl⟩
    exact⟨by simp,by simp,.inr ⟨rfl,by simp only[List.mem_cons,List.not_mem_nil,or_false];rintro s (rfl|rfl|rfl|rfl)<;>first|exact pl_c _ _ _|exact pl_p _ _ _|exact pl_k _ _ _|exact pl_t _ _ _|rfl⟩,λi hi=>by rcases(show i=0∨i=1∨i=2∨i=3 by omega) with rfl|rfl|rfl|rfl<;>(simp[chH,q07,q02,q00];try omega)⟩
   ·intro i hi;rcases(show i=0∨i=1∨i=2∨i=3 by omega) with rfl|rfl|rfl|rfl<;>simp only[go_sem]
   rintro _ _ ⟨rfl,rfl⟩
   simp only[go_sem]
   refine q0t (c8 cs hcl) [] 56 1 (by simp only[go_sem];first|done|simp) (by simp) (by rintro _ _ ⟨rfl,rfl⟩;simp) (by intro i hi;obtain rfl:i=0:=(by omega);simp only[go_sem]) ?_
   rintro _ _ ⟨rfl,rfl⟩
   simp only[go_sem]
   refine q0l (c12 cs (by omega)) [103600,105600] false (by simp only[go_sem];first|done|simp) (by simp only[List.mem_cons,List.not_mem_nil,or_false];rintro c (rfl|rfl)<;>simp only[go_sem]) rfl (.inr rfl) ?_
   simp only[go_sem]
   refine q0t (c9 es hel) [] 61 1 (by simp only[go_sem];first|done|simp) (by simp) (by rintro _ _ ⟨rfl,rfl⟩;simp) (by intro i hi;obtain rfl:i=0:=(by omega);simp only[go_sem]) ?_
   rintro _ _ ⟨rfl,rfl⟩
   simp only[go_sem]
   refine q0l (c13 es (by omega)) [103800,106100] false (by simp only[go_sem];first|done|simp) (by simp only[List.mem_cons,List.not_mem_nil,or_false];rintro c (rfl|rfl)<;>simp only[go_sem]) rfl (.inr rfl) ?_
   simp only[go_sem]
   refine q0f (c14 cs 1 hcl (by omega)) [103600] [] true 66 1 (by simp only[go_sem];first|done|simp) (by simp only[go_sem];first|done|simp) (by simp) (by simp) (by simp) ?_ ?_ ?_
   ·rintro _ _ ⟨rfl,rfl⟩
    exact⟨by simp,by simp,.inl rfl,λi hi=>by obtain rfl:i=0:=(by omega);(simp[chH,q07,q02,q00];try omega)⟩
   ·intro i hi;obtain rfl:i=0:=(by omega);simp only[go_sem]
   rintro _ _ ⟨rfl,rfl⟩
   simp only[go_sem]
   refine q0f (c15 es (1+10*cs.length) hel (by omega)) [103800] [] true 69 1 (by simp only[go_sem,n0];first|done|simp) (by simp only[go_sem,n0];first|done|simp) (by simp) (by simp) (by simp) ?_ ?_ ?_
   ·rintro _ _ ⟨rfl,rfl⟩
    exact⟨by simp,by simp,.inl rfl,λi hi=>by obtain rfl:i=0:=(by omega);(simp[chH,q07,q02,q00];try omega)⟩
   ·intro i hi;obtain rfl:i=0:=(by omega);simp only[go_sem]
   rintro _ _ ⟨rfl,rfl⟩
   simp only[go_sem,n0]
   refine q0f (n011 w hfs (by omega) (by omega) (by omega)) [104200,104201,104202,104203] [103200,103201,103202,103203] false 75 4 (by simp only[go_sem];first|done|simp) (by simp only[go_sem];first|done|simp) (by simp) (by simp) (by simp only[List.mem_cons,List.not_mem_nil,or_false];rintro c (rfl|rfl|rfl|rfl)<;>exact⟨by simp only[go_sem],by simp⟩) ?_ ?_ ?_
   ·rintro _ _ ⟨rfl,rfl⟩
    exact⟨by simp,by simp,.inr ⟨rfl,by simp only[List.mem_cons,List.not_mem_nil,or_false];rintro s (rfl|rfl|rfl|rfl)<;>first|exact pl_c _ _ _|exact pl_p _ _ _|exact pl_k _ _ _|exact pl_t _ _ _|rfl⟩,λi hi=>by rcases(show i=0∨i=1∨i=2∨i=3 by omega) with rfl|rfl|rfl|rfl<;>(simp[chH,q07,q02,q00];try omega)⟩
   ·intro i hi;rcases(show i=0∨i=1∨i=2∨i=3 by omega) with rfl|rfl|rfl|rfl<;>simp only[go_sem]
   rintro _ _ ⟨rfl,rfl⟩
   simp only[go_sem]
   refine q0f (n016 w.convs w.door.map w.nets w.convs.length w.door.map.length w.nets.length 1 rfl rfl rfl (by omega) (by omega) (by omega) (by omega)) [104200,104201,104202,104203] [] true 85 4 (by simp only[go_sem];first|done|simp) (by simp only[go_sem];first|done|simp) (by simp) (by simp) (by simp) ?_ ?_ ?_
   ·rintro _ _ ⟨rfl,rfl⟩
    exact⟨by simp,by simp,.inl rfl,λi hi=>by rcases(show i=0∨i=1∨i=2∨i=3 by omega) with rfl|rfl|rfl|rfl<;>(simp[chH,q07,q02,q00];try omega)⟩
   ·intro i hi;rcases(show i=0∨i=1∨i=2∨i=3 by omega) with rfl|rfl|rfl|rfl<;>simp only[go_sem]
   rintro _ _ ⟨rfl,rfl⟩
   simp only[go_sem]
   refine q0f (n017 w.convs.length w.door.map.length w.nets.length 1 (by omega) (by omega) (by omega) (by omega)) [104200,104201,104202,104203] [] true 88 4 (by simp only[go_sem,nE];first|done|simp) (by simp only[go_sem,nE];first|done|simp) (by simp) (by simp) (by simp) ?_ ?_ ?_
   ·rintro _ _ ⟨rfl,rfl⟩
    exact⟨by simp,by simp,.inl rfl,λi hi=>by rcases(show i=0∨i=1∨i=2∨i=3 by omega) with rfl|rfl|rfl|rfl<;>(simp[chH,q07,q02,q00];try omega)⟩
   ·intro i hi;rcases(show i=0∨i=1∨i=2∨i=3 by omega) with rfl|rfl|rfl|rfl<;>simp only[go_sem]
   rintro _ _ ⟨rfl,rfl⟩
   simp only[go_sem,nE]
   refine q0t (c8 cs hcl) [] 96 1 (by simp only[go_sem];first|done|simp) (by simp) (by rintro _ _ ⟨rfl,rfl⟩;simp) (by intro i hi;obtain rfl:i=0:=(by omega);simp only[go_sem]) ?_
   rintro _ _ ⟨rfl,rfl⟩
   simp only[go_sem]
   refine q0t (c9 es hel) [] 98 1 (by simp only[go_sem];first|done|simp) (by simp) (by rintro _ _ ⟨rfl,rfl⟩;simp) (by intro i hi;obtain rfl:i=0:=(by omega);simp only[go_sem]) ?_
   rintro _ _ ⟨rfl,rfl⟩
   simp only[go_sem]
   refine q0l (p2) [109600,109800] true (by simp only[go_sem];first|done|simp) (by simp only[List.mem_cons,List.not_mem_nil,or_false];rintro c (rfl|rfl)<;>simp only[go_sem]) rfl (.inl rfl) ?_
   simp only[go_sem]
   refine q0l (ew) [103200,103201,103202,103203] false (by simp only[go_sem];first|done|simp) (by simp only[List.mem_cons,List.not_mem_nil,or_false];rintro c (rfl|rfl|rfl|rfl)<;>simp only[go_sem]) rfl (.inr rfl) ?_
   simp only[go_sem]
   refine q0f (n017 w.convs.length w.door.map.length w.nets.length 1 (by omega) (by omega) (by omega) (by omega)) [104200,104201,104202,104203] [] true 113 4 (by simp only[go_sem,nE];first|done|simp) (by simp only[go_sem,nE];first|done|simp) (by simp) (by simp) (by simp) ?_ ?_ ?_
   ·rintro _ _ ⟨rfl,rfl⟩
    exact⟨by simp,by simp,.inl rfl,λi hi=>by rcases(show i=0∨i=1∨i=2∨i=3 by omega) with rfl|rfl|rfl|rfl<;>(simp[chH,q07,q02,q00];try omega)⟩
   ·intro i hi;rcases(show i=0∨i=1∨i=2∨i=3 by omega) with rfl|rfl|rfl|rfl<;>simp only[go_sem]
   rintro _ _ ⟨rfl,rfl⟩
   simp only[go_sem,nE]
  ·have nE:¬flE (1+10*(w.convs.length:Int)+3*(w.door.map.length:Int)) f+7*(w.nets.length:Int)<0:=by
    obtain⟨u0,v0⟩:=hpt f (by rw[hfs];simp)
    (try simp only[flE]);omega
   simp only[go_sem]
   refine q0f (n111 w f hfs (by omega) (by omega) (by omega) (hpt f (by rw[hfs];simp))) [104200,104201,104202,104203,104204,104205] [103200,103201,103202,103203] false 47 6 (by simp only[go_sem];first|done|simp) (by simp only[go_sem];first|done|simp) (by simp) (by simp) (by simp only[List.mem_cons,List.not_mem_nil,or_false];rintro c (rfl|rfl|rfl|rfl)<;>exact⟨by simp only[go_sem],by simp⟩) ?_ ?_ ?_
   ·rintro _ _ ⟨rfl,rfl⟩
    exact⟨by simp,by simp,.inr ⟨rfl,by simp only[List.mem_cons,List.not_mem_nil,or_false];rintro s (rfl|rfl|rfl|rfl|rfl|rfl)<;>first|exact pl_c _ _ _|exact pl_p _ _ _|exact pl_k _ _ _|exact pl_t _ _ _|rfl⟩,λi hi=>by rcases(show i=0∨i=1∨i=2∨i=3∨i=4∨i=5 by omega) with rfl|rfl|rfl|rfl|rfl|rfl<;>(simp[chH,q07,q02,q00];try omega)⟩
   ·intro i hi;rcases(show i=0∨i=1∨i=2∨i=3∨i=4∨i=5 by omega) with rfl|rfl|rfl|rfl|rfl|rfl<;>simp only[go_sem]
   rintro _ _ ⟨rfl,rfl⟩
   simp only[go_sem]
   refine q0t (c8 cs hcl) [] 56 1 (by simp only[go_sem];first|done|simp) (by simp) (by rintro _ _ ⟨rfl,rfl⟩;simp) (by intro i hi;obtain rfl:i=0:=(by omega);simp only[go_sem]) ?_
   rintro _ _ ⟨rfl,rfl⟩
   simp only[go_sem]
   refine q0l (c12 cs (by omega)) [103600,105600] false (by simp only[go_sem];first|done|simp) (by simp only[List.mem_cons,List.not_mem_nil,or_false];rintro c (rfl|rfl)<;>simp only[go_sem]) rfl (.inr rfl) ?_
   simp only[go_sem]
   refine q0t (c9 es hel) [] 61 1 (by simp only[go_sem];first|done|simp) (by simp) (by rintro _ _ ⟨rfl,rfl⟩;simp) (by intro i hi;obtain rfl:i=0:=(by omega);simp only[go_sem]) ?_
   rintro _ _ ⟨rfl,rfl⟩
   simp only[go_sem]
   refine q0l (c13 es (by omega)) [103800,106100] false (by simp only[go_sem];first|done|simp) (by simp only[List.mem_cons,List.not_mem_nil,or_false];rintro c (rfl|rfl)<;>simp only[go_sem]) rfl (.inr rfl) ?_
   simp only[go_sem]
   refine q0f (c14 cs 1 hcl (by omega)) [103600] [] true 66 1 (by simp only[go_sem];first|done|simp) (by simp only[go_sem];first|done|simp) (by simp) (by simp) (by simp) ?_ ?_ ?_
   ·rintro _ _ ⟨rfl,rfl⟩
    exact⟨by simp,by simp,.inl rfl,λi hi=>by obtain rfl:i=0:=(by omega);(simp[chH,q07,q02,q00];try omega)⟩
   ·intro i hi;obtain rfl:i=0:=(by omega);simp only[go_sem]
   rintro _ _ ⟨rfl,rfl⟩
   simp only[go_sem]
   refine q0f (c15 es (1+10*cs.length) hel (by omega)) [103800] [] true 69 1 (by simp only[go_sem,n0];first|done|simp) (by simp only[go_sem,n0];first|done|simp) (by simp) (by simp) (by simp) ?_ ?_ ?_
   ·rintro _ _ ⟨rfl,rfl⟩
    exact⟨by simp,by simp,.inl rfl,λi hi=>by obtain rfl:i=0:=(by omega);(simp[chH,q07,q02,q00];try omega)⟩
   ·intro i hi;obtain rfl:i=0:=(by omega);simp only[go_sem]
   rintro _ _ ⟨rfl,rfl⟩
   simp only[go_sem,n0]
   refine q0f (n111 w f hfs (by omega) (by omega) (by omega) (hpt f (by rw[hfs];simp))) [104200,104201,104202,104203,104204,104205] [103200,103201,103202,103203] false 75 6 (by simp only[go_sem];first|done|simp) (by simp only[go_sem];first|done|simp) (by simp) (by simp) (by simp only[List.mem_cons,List.not_mem_nil,or_false];rintro c (rfl|rfl|rfl|rfl)<;>exact⟨by simp only[go_sem],by simp⟩) ?_ ?_ ?_
   ·rintro _ _ ⟨rfl,rfl⟩
    exact⟨by simp,by simp,.inr ⟨rfl,by simp only[List.mem_cons,List.not_mem_nil,or_false];rintro s (rfl|rfl|rfl|rfl|rfl|rfl)<;>first|exact pl_c _ _ _|exact pl_p _ _ _|exact pl_k _ _ _|exact pl_t _ _ _|rfl⟩,λi hi=>by rcases(show i=0∨i=1∨i=2∨i=3∨i=4∨i=5 by omega) with rfl|rfl|rfl|rfl|rfl|rfl<;>(simp[chH,q07,q02,q00];try omega)⟩
   ·intro i hi;rcases(show i=0∨i=1∨i=2∨i=3∨i=4∨i=5 by omega) with rfl|rfl|rfl|rfl|rfl|rfl<;>simp only[go_sem]
   rintro _ _ ⟨rfl,rfl⟩
   simp only[go_sem]
   refine q0f (n116 w.convs w.door.map w.nets w.convs.length w.door.map.length w.nets.length f 1 rfl rfl rfl (by omega) (by omega) (by omega) (by omega) (hpt f (by rw[hfs];simp))) [104200,104201,104202,104203,104204,104205] [] true 85 6 (by simp only[go_sem];first|done|simp) (by simp only[go_sem];first|done|simp) (by simp) (by simp) (by simp) ?_ ?_ ?_
   ·rintro _ _ ⟨rfl,rfl⟩
    exact⟨by simp,by simp,.inl rfl,λi hi=>by rcases(show i=0∨i=1∨i=2∨i=3∨i=4∨i=5 by omega) with rfl|rfl|rfl|rfl|rfl|rfl<;>(simp[chH,q07,q02,q00];try omega)⟩
   ·intro i hi;rcases(show i=0∨i=1∨i=2∨i=3∨i=4∨i=5 by omega) with rfl|rfl|rfl|rfl|rfl|rfl<;>simp only[go_sem]
   rintro _ _ ⟨rfl,rfl⟩
   simp only[go_sem]
   refine q0f (n117 w.convs.length w.door.map.length w.nets.length f 1 (by omega) (by omega) (by omega) (by omega) (hpt f (by rw[hfs];simp))) [104200,104201,104202,104203,104204,104205] [] true 88 6 (by simp only[go_sem,nE];first|done|simp) (by simp only[go_sem,nE];first|done|simp) (by simp) (by simp) (by simp) ?_ ?_ ?_
   ·rintro _ _ ⟨rfl,rfl⟩
    exact⟨by simp,by simp,.inl rfl,λi hi=>by rcases(show i=0∨i=1∨i=2∨i=3∨i=4∨i=5 by omega) with rfl|rfl|rfl|rfl|rfl|rfl<;>(simp[chH,q07,q02,q00];try omega)⟩
   ·intro i hi;rcases(show i=0∨i=1∨i=2∨i=3∨i=4∨i=5 by omega) with rfl|rfl|rfl|rfl|rfl|rfl<;>simp only[go_sem]
   rintro _ _ ⟨rfl,rfl⟩
   simp only[go_sem,nE]
   refine q0t (c8 cs hcl) [] 96 1 (by simp only[go_sem];first|done|simp) (by simp) (by rintro _ _ ⟨rfl,rfl⟩;simp) (by intro i hi;obtain rfl:i=0:=(by omega);simp only[go_sem]) ?_
   rintro _ _ ⟨rfl,rfl⟩
   simp only[go_sem]
   refine q0t (c9 es hel) [] 98 1 (by simp only[go_sem];first|done|simp) (by simp) (by rintro _ _ ⟨rfl,rfl⟩;simp) (by intro i hi;obtain rfl:i=0:=(by omega);simp only[go_sem]) ?_
   rintro _ _ ⟨rfl,rfl⟩
   simp only[go_sem]
   refine q0l (p2) [109600,109800] true (by simp only[go_sem];first|done|simp) (by simp only[List.mem_cons,List.not_mem_nil,or_false];rintro c (rfl|rfl)<;>simp only[go_sem]) rfl (.inl rfl) ?_
   simp only[go_sem]
   refine q0l (ew) [103200,103201,103202,103203] false (by simp only[go_sem];first|done|simp) (by simp only[List.mem_cons,List.not_mem_nil,or_false];rintro c (rfl|rfl|rfl|rfl)<;>simp only[go_sem]) rfl (.inr rfl) ?_
   simp only[go_sem]
   refine q0f (n117 w.convs.length w.door.map.length w.nets.length f 1 (by omega) (by omega) (by omega) (by omega) (hpt f (by rw[hfs];simp))) [104200,104201,104202,104203,104204,104205] [] true 113 6 (by simp only[go_sem,nE];first|done|simp) (by simp only[go_sem,nE];first|done|simp) (by simp) (by simp) (by simp) ?_ ?_ ?_
   ·rintro _ _ ⟨rfl,rfl⟩
    exact⟨by simp,by simp,.inl rfl,λi hi=>by rcases(show i=0∨i=1∨i=2∨i=3∨i=4∨i=5 by omega) with rfl|rfl|rfl|rfl|rfl|rfl<;>(simp[chH,q07,q02,q00];try omega)⟩
   ·intro i hi;rcases(show i=0∨i=1∨i=2∨i=3∨i=4∨i=5 by omega) with rfl|rfl|rfl|rfl|rfl|rfl<;>simp only[go_sem]
   rintro _ _ ⟨rfl,rfl⟩
   simp only[go_sem,nE]
  ·have nE:¬flE (flE (1+10*(w.convs.length:Int)+3*(w.door.map.length:Int)) f) g+7*(w.nets.length:Int)<0:=by
    obtain⟨u0,v0⟩:=hpt f (by rw[hfs];simp)
    obtain⟨u1,v1⟩:=hpt g (by rw[hfs];simp)
    (try simp only[flE]);omega
   simp only[go_sem]
   refine q0f (n211 w f g hfs (by omega) (by omega) (by omega) (hpt f (by rw[hfs];simp)) (hpt g (by rw[hfs];simp))) [104200,104201,104202,104203,104204,104205,104206,104207] [103200,103201,103202,103203] false 47 8 (by simp only[go_sem];first|done|simp) (by simp only[go_sem];first|done|simp) (by simp) (by simp) (by simp only[List.mem_cons,List.not_mem_nil,or_false];rintro c (rfl|rfl|rfl|rfl)<;>exact⟨by simp only[go_sem],by simp⟩) ?_ ?_ ?_
   ·rintro _ _ ⟨rfl,rfl⟩
    exact⟨by simp,by simp,.inr ⟨rfl,by simp only[List.mem_cons,List.not_mem_nil,or_false];rintro s (rfl|rfl|rfl|rfl|rfl|rfl|rfl|rfl)<;>first|exact pl_c _ _ _|exact pl_p _ _ _|exact pl_k _ _ _|exact pl_t _ _ _|rfl⟩,λi hi=>by rcases(show i=0∨i=1∨i=2∨i=3∨i=4∨i=5∨i=6∨i=7 by omega) with rfl|rfl|rfl|rfl|rfl|rfl|rfl|rfl<;>(simp[chH,q07,q02,q00];try omega)⟩
   ·intro i hi;rcases(show i=0∨i=1∨i=2∨i=3∨i=4∨i=5∨i=6∨i=7 by omega) with rfl|rfl|rfl|rfl|rfl|rfl|rfl|rfl<;>simp only[go_sem]
   rintro _ _ ⟨rfl,rfl⟩
   simp only[go_sem]
   refine q0t (c8 cs hcl) [] 56 1 (by simp only[go_sem];first|done|simp) (by simp) (by rintro _ _ ⟨rfl,rfl⟩;simp) (by intro i hi;obtain rfl:i=0:=(by omega);simp only[go_sem]) ?_
   rintro _ _ ⟨rfl,rfl⟩
   simp only[go_sem]
   refine q0l (c12 cs (by omega)) [103600,105600] false (by simp only[go_sem];first|done|simp) (by simp only[List.mem_cons,List.not_mem_nil,or_false];rintro c (rfl|rfl)<;>simp only[go_sem]) rfl (.inr rfl) ?_
   simp only[go_sem]
   refine q0t (c9 es hel) [] 61 1 (by simp only[go_sem];first|done|simp) (by simp) (by rintro _ _ ⟨rfl,rfl⟩;simp) (by intro i hi;obtain rfl:i=0:=(by omega);simp only[go_sem]) ?_
   rintro _ _ ⟨rfl,rfl⟩
   simp only[go_sem]
   refine q0l (c13 es (by omega)) [103800,106100] false (by simp only[go_sem];first|done|simp) (by simp only[List.mem_cons,List.not_mem_nil,or_false];rintro c (rfl|rfl)<;>simp only[go_sem]) rfl (.inr rfl) ?_
   simp only[go_sem]
   refine q0f (c14 cs 1 hcl (by omega)) [103600] [] true 66 1 (by simp only[go_sem];first|done|simp) (by simp only[go_sem];first|done|simp) (by simp) (by simp) (by simp) ?_ ?_ ?_
   ·rintro _ _ ⟨rfl,rfl⟩
    exact⟨by simp,by simp,.inl rfl,λi hi=>by obtain rfl:i=0:=(by omega);(simp[chH,q07,q02,q00];try omega)⟩
   ·intro i hi;obtain rfl:i=0:=(by omega);simp only[go_sem]
   rintro _ _ ⟨rfl,rfl⟩
   simp only[go_sem]
   refine q0f (c15 es (1+10*cs.length) hel (by omega)) [103800] [] true 69 1 (by simp only[go_sem,n0];first|done|simp) (by simp only[go_sem,n0];first|done|simp) (by simp) (by simp) (by simp) ?_ ?_ ?_
   ·rintro _ _ ⟨rfl,rfl⟩
    exact⟨by simp,by simp,.inl rfl,λi hi=>by obtain rfl:i=0:=(by omega);(simp[chH,q07,q02,q00];try omega)⟩
   ·intro i hi;obtain rfl:i=0:=(by omega);simp only[go_sem]
   rintro _ _ ⟨rfl,rfl⟩
   simp only[go_sem,n0]
   refine q0f (n211 w f g hfs (by omega) (by omega) (by omega) (hpt f (by rw[hfs];simp)) (hpt g (by rw[hfs];simp))) [104200,104201,104202,104203,104204,104205,104206,104207] [103200,103201,103202,103203] false 75 8 (by simp only[go_sem];first|done|simp) (by simp only[go_sem];first|done|simp) (by simp) (by simp) (by simp only[List.mem_cons,List.not_mem_nil,or_false];rintro c (rfl|rfl|rfl|rfl)<;>exact⟨by simp only[go_sem],by simp⟩) ?_ ?_ ?_
   ·rintro _ _ ⟨rfl,rfl⟩
    exact⟨by simp,by simp,.inr ⟨rfl,by simp only[List.mem_cons,List.not_mem_nil,or_false];rintro s (rfl|rfl|rfl|rfl|rfl|rfl|rfl|rfl)<;>first|exact pl_c _ _ _|exact pl_p _ _ _|exact pl_k _ _ _|exact pl_t _ _ _|rfl⟩,λi hi=>by rcases(show i=0∨i=1∨i=2∨i=3∨i=4∨i=5∨i=6∨i=7 by omega) with rfl|rfl|rfl|rfl|rfl|rfl|rfl|rfl<;>(simp[chH,q07,q02,q00];try omega)⟩
   ·intro i hi;rcases(show i=0∨i=1∨i=2∨i=3∨i=4∨i=5∨i=6∨i=7 by omega) with rfl|rfl|rfl|rfl|rfl|rfl|rfl|rfl<;>simp only[go_sem]
   rintro _ _ ⟨rfl,rfl⟩
   simp only[go_sem]
   refine q0f (n216 w.convs w.door.map w.nets w.convs.length w.door.map.length w.nets.length f g 1 rfl rfl rfl (by omega) (by omega) (by omega) (by omega) (hpt f (by rw[hfs];simp)) (hpt g (by rw[hfs];simp))) [104200,104201,104202,104203,104204,104205,104206,104207] [] true 85 8 (by simp only[go_sem];first|done|simp) (by simp only[go_sem];first|done|simp) (by simp) (by simp) (by simp) ?_ ?_ ?_
   ·rintro _ _ ⟨rfl,rfl⟩
    exact⟨by simp,by simp,.inl rfl,λi hi=>by rcases(show i=0∨i=1∨i=2∨i=3∨i=4∨i=5∨i=6∨i=7 by omega) with rfl|rfl|rfl|rfl|rfl|rfl|rfl|rfl<;>(simp[chH,q07,q02,q00];try omega)⟩
   ·intro i hi;rcases(show i=0∨i=1∨i=2∨i=3∨i=4∨i=5∨i=6∨i=7 by omega) with rfl|rfl|rfl|rfl|rfl|rfl|rfl|rfl<;>simp only[go_sem]
   rintro _ _ ⟨rfl,rfl⟩
   simp only[go_sem]
   refine q0f (n217 w.convs.length w.door.map.length w.nets.length f g 1 (by omega) (by omega) (by omega) (by omega) (hpt f (by rw[hfs];simp)) (hpt g (by rw[hfs];simp))) [104200,104201,104202,104203,104204,104205,104206,104207] [] true 88 8 (by simp only[go_sem,nE];first|done|simp) (by simp only[go_sem,nE];first|done|simp) (by simp) (by simp) (by simp) ?_ ?_ ?_
   ·rintro _ _ ⟨rfl,rfl⟩
    exact⟨by simp,by simp,.inl rfl,λi hi=>by rcases(show i=0∨i=1∨i=2∨i=3∨i=4∨i=5∨i=6∨i=7 by omega) with rfl|rfl|rfl|rfl|rfl|rfl|rfl|rfl<;>(simp[chH,q07,q02,q00];try omega)⟩
   ·intro i hi;rcases(show i=0∨i=1∨i=2∨i=3∨i=4∨i=5∨i=6∨i=7 by omega) with rfl|rfl|rfl|rfl|rfl|rfl|rfl|rfl<;>simp only[go_sem]
   rintro _ _ ⟨rfl,rfl⟩
   simp only[go_sem,nE]
   refine q0t (c8 cs hcl) [] 96 1 (by simp only[go_sem];first|done|simp) (by simp) (by rintro _ _ ⟨rfl,rfl⟩;simp) (by intro i hi;obtain rfl:i=0:=(by omega);simp only[go_sem]) ?_
   rintro _ _ ⟨rfl,rfl⟩
   simp only[go_sem]
   refine q0t (c9 es hel) [] 98 1 (by simp only[go_sem];first|done|simp) (by simp) (by rintro _ _ ⟨rfl,rfl⟩;simp) (by intro i hi;obtain rfl:i=0:=(by omega);simp only[go_sem]) ?_
   rintro _ _ ⟨rfl,rfl⟩
   simp only[go_sem]
   refine q0l (p2) [109600,109800] true (by simp only[go_sem];first|done|simp) (by simp only[List.mem_cons,List.not_mem_nil,or_false];rintro c (rfl|rfl)<;>simp only[go_sem]) rfl (.inl rfl) ?_
   simp only[go_sem]
   refine q0l (ew) [103200,103201,103202,103203] false (by simp only[go_sem];first|done|simp) (by simp only[List.mem_cons,List.not_mem_nil,or_false];rintro c (rfl|rfl|rfl|rfl)<;>simp only[go_sem]) rfl (.inr rfl) ?_
   simp only[go_sem]
   refine q0f (n217 w.convs.length w.door.map.length w.nets.length f g 1 (by omega) (by omega) (by omega) (by omega) (hpt f (by rw[hfs];simp)) (hpt g (by rw[hfs];simp))) [104200,104201,104202,104203,104204,104205,104206,104207] [] true 113 8 (by simp only[go_sem,nE];first|done|simp) (by simp only[go_sem,nE];first|done|simp) (by simp) (by simp) (by simp) ?_ ?_ ?_
   ·rintro _ _ ⟨rfl,rfl⟩
    exact⟨by simp,by simp,.inl rfl,λi hi=>by rcases(show i=0∨i=1∨i=2∨i=3∨i=4∨i=5∨i=6∨i=7 by omega) with rfl|rfl|rfl|rfl|rfl|rfl|rfl|rfl<;>(simp[chH,q07,q02,q00];try omega)⟩
   ·intro i hi;rcases(show i=0∨i=1∨i=2∨i=3∨i=4∨i=5∨i=6∨i=7 by omega) with rfl|rfl|rfl|rfl|rfl|rfl|rfl|rfl<;>simp only[go_sem]
   rintro _ _ ⟨rfl,rfl⟩
   simp only[go_sem,nE]
end Go.Proofs.YtpnekhiejecipaaGreatDoor.W
namespace Go.Proofs.YtpnekhiejecipaaGreatDoor.fnExactWorldPlay
open Go Go.ChangeShapes Go.WideShapes Go.ChangeAt Go.RowKit Go.Proofs.YtpnekhiejecipaaGreatDoor.W
theorem q78 {H:Type} {enc:TypeId×Value→H} {C:Checked} {os:Os} {f:FuncId} {fn:Func} {s:OpenSpec} {conds:List PathCond} {apart:Bool} {laid:List (String×DataW Unit)} (w0:World) (args:Array Value) (hos:w0.os=os)
 (hsh:(w0.forCall (λ_ _=>0) ⟨#[],args,[]⟩).Shaped C.prog) (hok:Input.okWideB C.prog (w0.forCall (λ_ _=>0) ⟨#[],args,[]⟩) f ⟨#[],args,[]⟩=true)
 (hrow:s.preRow enc C.prog fn conds apart laid (w0.forCall (λ_ _=>0) ⟨#[],args,[]⟩).memory args) :
 ∃(w:World) (tape:Tape) (i:Input),w.os=os∧(w.forCall tape i).Shaped C.prog∧i.vars=[]∧Input.okWide C.prog (w.forCall tape i) .any w.heap.size f i ∧
  s.preRow enc C.prog fn conds apart laid (w.forCall tape i).memory i.args∧({ modest:=false }:Assume).holds C.prog (lone (Frame.enter C.prog f i.args .normal) [] (w.forCall tape i)) :=
 ⟨w0,λ_ _=>0,⟨#[],args,[]⟩,hos,hsh,(Input.okWide_of_okWideB (base:=0) hok).1,(Input.okWide_of_okWideB hok).2,hrow,by
   simp only[Assume.holds]
   exact⟨by simp,by simp,by simp,by simp,by simp⟩⟩
theorem walk (v0 v1:Value) (W:World) (hs:W.ShapedOpen Tryz.prog) (hL:laidMetH Tryz.prog Rows.fnExactWorldPlayRow.laid W) (hv0:(∃l:List M.Conv,VL.Den W noO noρ noH (.sl 10 (l.map M.Conv.row)) v0∧(l.length:Int)≤9223372036854775807∧∀a∈l,qp1 a)) (hv1:(∃l:List M.Ev,VL.Den W noO noρ noH (.sl 11 (l.map M.Ev.row)) v1∧(l.length:Int)≤9223372036854775807∧∀a∈l,qoz a)) :
 Calls Tryz.prog 3 #[v0,v1] W λe W'=>e=.returned (.bool true)∧Below W.heap.size W W':=by
 obtain⟨code,hdv0,hl0,hb0⟩:=hv0
 obtain⟨more,hdv1,hl1,hb1⟩:=hv1
 have:=Go.Proofs.YtpnekhiejecipaaGreatDoor.W.FnR.calls (c3 code more hl0 hl1 hb0 hb1) (us:=[v0,v1]) (gOk rfl hL hs) ⟨rfl,λj a b ha hb=>by
  match j,ha,hb with
  | 0,ha,hb=>cases ha;cases hb;exact hdv0
  | 1,ha,hb=>cases ha;cases hb;exact hdv1
  | j+2,ha,hb=>simp at ha⟩
 exact this
set_option maxRecDepth 100000 in
theorem contract (H:Type) (enc:TypeId×Value→H) (W:World) (base:Nat) (args:Array Value) (ds gs:List (DataW H)) (before:List MemPlace)
 (hval:∀(j:Nat) t v,Tryz.f3.params[j]?=some t→args[j]?=some v→Value.okWide Tryz.prog W .any base t v)
 (hW:DataW.Whole enc Tryz.prog Tryz.f3.params.toList Rows.fnExactWorldPlaySpec.vars false W args.toList ds gs before) (hL:laidMetH Tryz.prog Rows.fnExactWorldPlayRow.laid W) (hs:W.ShapedOpen Tryz.prog) :
 Calls Tryz.prog 3 args W λe W'=>∃v,e=.returned v∧Rows.fnExactWorldPlaySpec.post enc Tryz.prog Tryz.f3 false true false false W args v W':=by
 have hW':=hW
 obtain⟨p,q,hA0,hV,rfl,hfz,hnd⟩:=hW
 have hA:DataW.TrodAll enc Tryz.prog W 0 (λ_=>true) true Tryz.f3.params.toList args.toList ds p:=hA0
 rw[Tryz.params3] at hA hval
 obtain⟨v0,r0s,d0,d0s,p0,q0,hargs0,rfl,rfl,h0,r0⟩:=trodAll_cons hA
 obtain⟨v1,r1s,d1,d1s,p1,q1,hargs1,rfl,rfl,h1,r1⟩:=trodAll_cons r0
 obtain⟨e1,e2,e3⟩:=trodAll_nil r1
 subst e1 e2 e3
 obtain rfl:args=#[v0,v1]:=by cases args;simp_all
 obtain⟨rfl,rfl⟩:=trodVars_none hV
 obtain⟨a0,len0,cap0,hv0⟩:=okWide_slice Tryz.underlying22 (hval 0 22 v0 rfl rfl)
 have k0:=h0
 have lt0:∀x∈p0,x.block<W.heap.size:=by obtain⟨m,hm⟩:=k0;exact DataW.trod_lt m _ _ _ hm
 have hc0:=qch h0 ⟨a0,len0,cap0,hv0⟩
 obtain⟨a1,len1,cap1,hv1⟩:=okWide_slice Tryz.underlying23 (hval 1 23 v1 rfl rfl)
 have k1:=h1
 have lt1:∀x∈p1,x.block<W.heap.size:=by obtain⟨m,hm⟩:=k1;exact DataW.trod_lt m _ _ _ hm
 have hc1:=qar h1 ⟨a1,len1,cap1,hv1⟩
 clear hA0
 refine(walk v0 v1 W hs hL hc0 hc1).mono λe W' ⟨he,bel⟩=>?_
 subst he
 exact⟨_,rfl,_,_,_,[],_,[],hW',trodAll_mk1 (shut_bool Tryz.underlying4 _),(trodAll_cons_mk (Below.trod qa6 (by kernel_rfl) (of_decide_eq_true (by kernel_rfl)) k0 bel lt0) (trodAll_cons_mk (Below.trod qa6 (by kernel_rfl) (of_decide_eq_true (by kernel_rfl)) k1 bel lt1) trodAll_mk0)),rfl,bel.frame _,λh=>by cases h⟩
theorem inP:(Rows.fnExactWorldPlayRow.inPlace==Tryz.prog.inPlace 3)=true:=by kernel_rfl
theorem unf:(Rows.fnExactWorldPlayRow.unfollowed==Tryz.prog.unfollowed 3)=true:=by kernel_rfl
theorem rcs:(Rows.fnExactWorldPlayRow.recurses==Tryz.prog.recurses 3)=true:=by kernel_rfl
theorem nam:(Rows.fnExactWorldPlayRow.named==Tryz.prog.varsNamed 3)=true:=by kernel_rfl
theorem lif:(Rows.fnExactWorldPlayRow.lifted==Tryz.prog.liftsFinal)=true:=lifF
theorem pke:(Rows.fnExactWorldPlayRow.plainKeys==Tryz.prog.plainKeys)=true:=pkeF
theorem mak:(Tryz.prog.make==some Rows.fnExactWorldPlayRow.make)=true:=makF
theorem closed0:joinedFacts Tryz.prog 3 Tryz.f3 Rows.fnExactWorldPlaySpec Rows.fnExactWorldPlayRow=true:=by
 unfold joinedFacts
 rw[qa6,mapF,inP,unf,rcs,nam,pke,stoF,mayF,lif,mak]
 kernel_rfl
theorem closed:joinedFacts Tryz.pinned.checked.prog 3 Tryz.f3 (OpenSpec.ofChange Rows.fnExactWorldPlaySpec).bare Rows.fnExactWorldPlayRow=true :=
 (show joinedFacts Tryz.pinned.checked.prog 3 Tryz.f3 (OpenSpec.ofChange Rows.fnExactWorldPlaySpec).bare Rows.fnExactWorldPlayRow=joinedFacts Tryz.prog 3 Tryz.f3 Rows.fnExactWorldPlaySpec Rows.fnExactWorldPlayRow by kernel_rfl).trans closed0
theorem door_met (os:Os) (args:Array Value):laidMetH Tryz.prog Rows.fnExactWorldPlayRow.laid ((World.laidAll Tryz.prog os Rows.fnExactWorldPlayRow.laid).forCall (λ_ _=>0) ⟨#[],args,[]⟩).memory :=
 by rw[MakeChecks.laidMetH_plain _ _ _ (by kernel_rfl)];exact laidMet_laidAll _ (by kernel_rfl) (by kernel_rfl)
theorem reads (os:Os) {H:Type} (enc:TypeId×Value→H):∃places,DataW.whole enc Tryz.prog ((World.laidAll Tryz.prog os Rows.fnExactWorldPlayRow.laid).forCall (λ_ _=>0) ⟨#[],#[.slice none 0 0,.slice none 0 0],[]⟩).memory Tryz.f3.params.toList Rows.fnExactWorldPlaySpec.vars false #[Value.slice none 0 0,Value.slice none 0 0].toList 8=some ([.nil,.nil],[],places) :=
 ⟨[],by kernel_rfl⟩
set_option maxRecDepth 100000 in
theorem lifted (os:Os) (started:os.Started) (H:Type) (enc:TypeId×Value→H) (F:Stop.Interp) :
 ReturnsInHanded {} Tryz.checked os 3 .any ((OpenSpec.ofChange Rows.fnExactWorldPlaySpec).preRow enc Tryz.prog Tryz.f3 Rows.fnExactWorldPlayRow.domain false Rows.fnExactWorldPlayRow.laid) (((OpenSpec.ofChange Rows.fnExactWorldPlaySpec).at F).post enc Tryz.prog Tryz.f3 false true false false):=by
 obtain⟨places,hx⟩:=reads os enc
 refine returnsInHanded_of_row (C:=Tryz.checked) (s:=OpenSpec.ofChange Rows.fnExactWorldPlaySpec) own started (by kernel_rfl) Tryz.func3
  (q78 (enc:=enc) (C:=Tryz.checked) (World.laidAll Tryz.prog os Rows.fnExactWorldPlayRow.laid) #[.slice none 0 0,.slice none 0 0] (World.laidAll_os _ _ _) (World.shaped_of_ZipB (by kernel_rfl) (by kernel_rfl)) (by kernel_rfl)
    (OpenSpec.preRow_of_cond 8 hx (by kernel_rfl) (λk hk=>by cases hk) (by kernel_rfl) (door_met os _))) ?_
 intro W base args ds gs before hval hW _ _ _ hL hs _
 exact contract H enc W base args ds gs before hval hW hL hs
theorem said:Rows.FnExactWorldPlaySaid :=
 OpenClaim.holds_of_cond 3 Tryz.f3 rfl rfl rfl rfl rfl rfl rfl ⟨rfl,rfl,rfl,rfl,rfl⟩ rfl rfl rfl rfl rfl (by kernel_rfl) Tryz.func3 closed
  (of_decide_eq_true (by kernel_rfl)) (by unfold Func.isWrapper;first|(rw[if_pos (by decide +kernel)];kernel_rfl)|(rw[if_neg (by decide +kernel)];exact⟨rfl,rfl⟩))
  (λos started H enc _ F=>by rw[OpenClaim.pre_eq_preRow];exact lifted os started H enc F)
theorem plain (f:FuncId) (fn:Func) (hf:Tryz.pinned.checked.prog.funcNamed "loop.example/ostiary/laws.FnExactWorldPlay"=some f) (hfn:Tryz.pinned.checked.prog.funcs[f]?=some fn) :
 true=Tryz.pinned.checked.prog.looks []∧∀(j:Nat) t,fn.params[j]?=some t→Tryz.pinned.checked.prog.wantsStandIn t=false:=by
 obtain rfl:f=3:=Option.some.inj ((show Tryz.prog.funcNamed "loop.example/ostiary/laws.FnExactWorldPlay"=some 3 by kernel_rfl).symm.trans hf) |>.symm
 obtain rfl:fn=Tryz.f3:=(Option.some.inj (Tryz.func3.symm.trans hfn)).symm
 refine⟨by kernel_rfl,λj t ht=>?_⟩
 rw[Tryz.params3] at ht
 have:t=22∨t=23:=by simpa using Array.mem_of_getElem? ht
 rcases this with rfl|rfl
 ·exact(show Tryz.prog.wantsStandIn 22=false by kernel_rfl)
 ·exact(show Tryz.prog.wantsStandIn 23=false by kernel_rfl)
theorem card:Rows.FnExactWorldPlayCardSaid :=
 Claim7.holds_tied_plain_at .later [] _ _ _ _ said (λ_ h=>by cases h) (by kernel_rfl) (λ_ h=>by cases h) fnExactWorldPlay_row_tie rfl ⟨rfl,rfl⟩ (by kernel_rfl) rfl plain (by kernel_rfl)
end Go.Proofs.YtpnekhiejecipaaGreatDoor.fnExactWorldPlay
