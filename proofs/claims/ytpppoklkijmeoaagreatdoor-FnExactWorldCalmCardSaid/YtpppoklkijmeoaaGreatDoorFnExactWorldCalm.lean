/- FnExactWorldCalm: the program's calm rounds of a world return what the reference's return, in rows of their own, and leave what they were given. Conditions: those of the row alone. -/
import Derived.Test.YtpppoklkijmeoaaGreatDoorQ06
import Derived.Test.YtpppoklkijmeoaaGreatDoorQ04
import Derived.ChangeShapes
import Derived.Lay
import Derived.Test.YtpppoklkijmeoaaGreatDoorCards
import Derived.Test.YtpppoklkijmeoaaGreatDoorTie
set_option linter.all false
namespace Go.Proofs.YtpppoklkijmeoaaGreatDoor.W
open Go Go.RowKit Go.Proofs Go.Proofs.YtpppoklkijmeoaaGreatDoor.VL Go.Proofs.YtpppoklkijmeoaaGreatDoor.M
attribute [local go_sem] q1j qdw btt bff
def ic3:IC:=sR [oP 2 (.box 29 (.t 0)),oP 4 (.mv cF)] (sR [oP 5 (.mv (cI 1048576))] (sR [lA 13 4 2,mV 14 5,oP 15 (.call 5 [.t 13,.t 14]),mV 5 15] (.seq (sR [mV 16 5,oP 17 (.bin .lss (.t 16) (.c i0))] (cD 17 (sR [oP 4 (.mv cT)] .ret) .skip)) (sR [lA 18 4 2,oP 19 (.call 7 [.t 18]),mV 20 1,oP 21 (.call 6 [.t 19,.t 20]),oP 6 (.alloc 38 [.nils,.nils,.nils,.nils]),nP (.sto 4 (.t 6) (.t 21))] (sR [lA 22 4 2,oP 23 (.call 7 [.t 22]),oP 7 (.alloc 38 [.nils,.nils,.nils,.nils]),nP (.sto 4 (.t 7) (.t 23))] (sR [lA 24 4 7,mV 25 1,oP 26 (.call 8 [.t 24,.t 25]),oP 8 (.alloc 38 [.nils,.nils,.nils,.nils]),nP (.sto 4 (.t 8) (.t 26))] (.seq (sR [lA 27 4 8,lA 28 4 6,oP 29 (.call 9 [.t 27,.t 28]),oP 30 (.un .not (.t 29))] (cD 30 (sR [oP 4 (.mv cF)] .ret) .skip)) (.seq (.seq (.drw [0,0,2,7,15] [(0,lA 31 4 7),(1,lA 32 4 2),(2,oP 33 (.call 7 [.t 32])),(3,oP 34 (.call 9 [.t 31,.t 33])),(4,oP 35 (.un .not (.t 34)))]) (cD 35 (sR [oP 4 (.mv cF)] .ret) .skip)) (sR [oP 9 (.mv (cI 1))] (sR [lA 36 4 7,mV 37 9,oP 38 (.call 10 [.t 36,.t 37]),mV 9 38] (.seq (sR [mV 39 9,oP 40 (.bin .lss (.t 39) (.c i0)),mV 41 40,gF 42 41 (.ld 4 true (.t 8)),gF 43 41 (.ld 4 true (.t 6)),gF 44 41 (.call 9 [.t 42,.t 43]),gF 45 41 (.un .not (.t 44)),pT 46 41 45] (cD 46 (sR [oP 4 (.mv cF)] .ret) .skip)) (sR [oP 10 (.mv (cI 1))] (sR [lA 47 4 8,mV 48 10,oP 49 (.call 10 [.t 47,.t 48]),mV 10 49] (sR [oP 11 (.mv (cI 1))] (sR [lA 50 4 8,mV 51 11,oP 52 (.call 11 [.t 50,.t 51]),mV 11 52] (.seq (sR [mV 53 11,oP 54 (.bin .lss (.t 53) (.c i0))] (cD 54 (sR [oP 4 (.mv cF)] .ret) .skip)) (.seq (sR [mV 55 11,mV 56 10,bN 57 .neq 55 56] (cD 57 (sR [oP 4 (.mv cF)] .ret) .skip)) (sR [lA 58 4 2,oP 59 (.call 7 [.t 58]),mV 60 1,oP 61 (.call 8 [.t 59,.t 60]),oP 12 (.alloc 38 [.nils,.nils,.nils,.nils]),nP (.sto 4 (.t 12) (.t 61))] (.seq (sR [lA 62 4 12,lA 63 4 6,oP 64 (.call 9 [.t 62,.t 63]),oP 65 (.un .not (.t 64))] (cD 65 (sR [oP 4 (.mv cF)] .ret) .skip)) (sR [oP 11 (.mv (cI 1))] (sR [lA 66 4 8,mV 67 11,oP 68 (.call 11 [.t 66,.t 67]),mV 11 68] (.seq (sR [mV 69 11,oP 70 (.bin .lss (.t 69) (.c i0))] (cD 70 (sR [oP 4 (.mv cF)] .ret) .skip)) (.seq (sR [mV 71 11,mV 72 10,bN 73 .neq 71 72] (cD 73 (sR [oP 4 (.mv cF)] .ret) .skip)) (sR [oP 4 (.mv cT)] .ret))))))))))))))))))))))))
theorem dg3:Dg Tryz.prog 3 Tryz.f3 ic3 [(.t 4)]:=⟨Tryz.func3,by kernel_rfl,by kernel_rfl⟩
set_option maxHeartbeats 8000000 in
theorem c3 (w:M.World) (n:Int) (hw:qry w):FnR Tryz.prog G 3 [.agg [.sl 10 (w.convs.map Conv.row),.sl 3 (w.door.map.map Pair.row),.sl 8 (w.door.flows.map Flw.row),.sl 7 (w.nets.map Pk.row)],.int .i64 n] (.bool true):=by
 refine mF dg3 Tryz.ntmps3 ?_
 simp only[ic3,go_sem]
 refine q14 (q5 w 1048576 hw (by omega)) [] 15 0 (by simp only[go_sem];first|done|simp) (by simp) (by rintro _ _ ⟨rfl,_⟩;simp) (by intro i hi;omega) ?_
 rintro _ _ ⟨rfl,r,rfl,hr⟩
 simp only[go_sem]
 by_cases h1:r<0
 ·simp only[eq_true h1,go_sem]
 obtain⟨br,hs⟩:=hr.resolve_left h1
 have hb:∀f∈w.door.flows,ptB f:=λf hf=>smF (hs.2.2.1.2 f hf)
 have s0:=hs.1.1
 have s1:=hs.2.1
 have s2:=hs.2.2.1.1
 have s3:=hs.2.2.2.1
 have hE:=q7o hb
 have hm:=qdy 1 w
 have hq:q0v w=true→∃X,WX X w:=λh=>⟨_,qji h⟩
 have f1:=x7 w s0 s1 s2 hb s3
 have f3:=r6 w n (qlt hs) hq
 have f4:=r8 w n (qlt hs) hq
 cases hok:q0v w&&q0j n 0 6 with
 | false =>
   rw[(q4g w n).2 hok] at f3 f4
   have ez:=c9 .zero (by simp[q2l]) (by simp[q2l]) (by simp[q2l]) (by simp[q2l]) (by simp[q2l])
   have zm:=z10 1
   have zh:=z11 1 (by omega)
   simp only[q2l,List.map_nil] at f3 f4 ez
   simp only[eq_false h1,go_sem]
   with_reducible repeat' (first|refine br ?_ ?_<;>intro h e<;>(try simp only[e,go_sem])<;>clear e|rw[q00 (by omega)]|refine sd ?_<;>try simp only[go_sem]|fail)
   refine q0m f1 rfl rfl ?_
   simp only[go_sem]
   with_reducible repeat' (first|refine br ?_ ?_<;>intro h e<;>(try simp only[e,go_sem])<;>clear e|rw[q00 (by omega)]|refine sd ?_<;>try simp only[go_sem]|(first|refine cr (f3 ..) ?_)<;>try simp only[go_sem]|fail)
   refine newC (u:=w) (d7 w s0 s1 s2 hb s3) 1000000 (by decide) (by first|rfl|simp) (λi hi=>by simp only[q3u];(repeat' first|rw[q01,if_neg (by omega)]|rw[q2e (by omega)]);rfl) λtc td hT hD=>?_
   simp only[go_sem,q09,List.append_assoc,List.cons_append,List.nil_append,Nat.reduceLT,Nat.reduceMul,Nat.reduceAdd,WV]
   with_reducible repeat' (first|refine q4t (by repeat' first|exact q0q|refine q0g (by first|exact q51 (by decide)|exact q68 (by decide)|exact q5u (by assumption) (by assumption) (by decide)|exact q2d (by assumption) (by decide)|kernel_rfl) ?_) ?_;try simp only[go_sem,q09,List.append_assoc,List.cons_append,List.nil_append,Nat.reduceLT,Nat.reduceMul,Nat.reduceAdd,WV]|refine br ?_ ?_<;>intro h e<;>(try simp only[e,go_sem,q09,List.append_assoc,List.cons_append,List.nil_append,Nat.reduceLT,Nat.reduceMul,Nat.reduceAdd,WV])<;>clear e|rw[q00 (by omega)]|refine sd ?_<;>try simp only[go_sem,q09,List.append_assoc,List.cons_append,List.nil_append,Nat.reduceLT,Nat.reduceMul,Nat.reduceAdd,WV]|fail)
   refine q8x (w:=w) (b:=100100000) (v:=(.agg [.sl 10 [],.sl 3 [],.sl 8 [],.sl 7 []])) (f4) (by with_reducible repeat' first|exact q1y _ _ _|refine q1g (by omega) ?_|refine q3n (by omega) ?_) (by decide) (by first|rfl|simp) rfl rfl λtc hT=>?_
   simp only[go_sem,q09,List.append_assoc,List.cons_append,List.nil_append,Nat.reduceLT,Nat.reduceMul,Nat.reduceAdd]
   with_reducible repeat' (first|refine q4t (by repeat' first|exact q0q|refine q0g (by first|exact q51 (by decide)|exact q68 (by decide)|exact q5u (by assumption) (by assumption) (by decide)|exact q2d (by assumption) (by decide)|kernel_rfl) ?_) ?_;try simp only[go_sem,q09,List.append_assoc,List.cons_append,List.nil_append,Nat.reduceLT,Nat.reduceMul,Nat.reduceAdd]|refine br ?_ ?_<;>intro h e<;>(try simp only[e,go_sem,q09,List.append_assoc,List.cons_append,List.nil_append,Nat.reduceLT,Nat.reduceMul,Nat.reduceAdd])<;>clear e|rw[q00 (by omega)]|refine sd ?_<;>try simp only[go_sem,q09,List.append_assoc,List.cons_append,List.nil_append,Nat.reduceLT,Nat.reduceMul,Nat.reduceAdd]|(first|refine cr (ez ..) ?_)<;>try simp only[go_sem,q09,List.append_assoc,List.cons_append,List.nil_append,Nat.reduceLT,Nat.reduceMul,Nat.reduceAdd]|fail)
   refine q0m f1 rfl rfl ?_
   simp only[go_sem,q09,List.append_assoc,List.cons_append,List.nil_append,Nat.reduceLT,Nat.reduceMul,Nat.reduceAdd]
   with_reducible repeat' (first|refine q4t (by repeat' first|exact q0q|refine q0g (by first|exact q51 (by decide)|exact q68 (by decide)|exact q5u (by assumption) (by assumption) (by decide)|exact q2d (by assumption) (by decide)|kernel_rfl) ?_) ?_;try simp only[go_sem,q09,List.append_assoc,List.cons_append,List.nil_append,Nat.reduceLT,Nat.reduceMul,Nat.reduceAdd]|refine br ?_ ?_<;>intro h e<;>(try simp only[e,go_sem,q09,List.append_assoc,List.cons_append,List.nil_append,Nat.reduceLT,Nat.reduceMul,Nat.reduceAdd])<;>clear e|rw[q00 (by omega)]|refine sd ?_<;>try simp only[go_sem,q09,List.append_assoc,List.cons_append,List.nil_append,Nat.reduceLT,Nat.reduceMul,Nat.reduceAdd]|fail)
   refine q8x (w:=w) (b:=100100000) (v:=(.bool true)) (c9 w (by omega) (by omega) (by omega) (by omega) hb) (by with_reducible repeat' first|exact q1y _ _ _|refine q1g (by omega) ?_|refine q3n (by omega) ?_) (by decide) (by first|rfl|simp) rfl rfl λtc hT=>?_
   simp only[go_sem,q09,List.append_assoc,List.cons_append,List.nil_append,Nat.reduceLT,Nat.reduceMul,Nat.reduceAdd]
   with_reducible repeat' (first|refine q4t (by repeat' first|exact q0q|refine q0g (by first|exact q51 (by decide)|exact q68 (by decide)|exact q5u (by assumption) (by assumption) (by decide)|exact q2d (by assumption) (by decide)|kernel_rfl) ?_) ?_;try simp only[go_sem,q09,List.append_assoc,List.cons_append,List.nil_append,Nat.reduceLT,Nat.reduceMul,Nat.reduceAdd]|refine br ?_ ?_<;>intro h e<;>(try simp only[e,go_sem,q09,List.append_assoc,List.cons_append,List.nil_append,Nat.reduceLT,Nat.reduceMul,Nat.reduceAdd])<;>clear e|rw[q00 (by omega)]|refine sd ?_<;>try simp only[go_sem,q09,List.append_assoc,List.cons_append,List.nil_append,Nat.reduceLT,Nat.reduceMul,Nat.reduceAdd]|fail)
   refine qg1 (w:=w) (u:=mkW 1 w) (b:=100100000) (v:=.int .i64 (qc0 1 w)) (d10 w 1 hs (by omega) hb) 3000000 (by with_reducible repeat' first|exact q1y _ _ _|refine q1g (by omega) ?_|refine q3n (by omega) ?_) (q0o ..) (q0o ..) (q0o ..) (q19 ..) (λj x y hx hy=>by have:=q2f hx hy;exact⟨by omega,by omega⟩) rfl rfl (λi hi=>by simp only[q3u];(repeat' first|rw[q01,if_neg (by omega)]|rw[q2e (by omega)]);rfl) λtc tc'=>?_
   simp only[go_sem,q09,List.append_assoc,List.cons_append,List.nil_append,Nat.reduceLT,Nat.reduceMul,Nat.reduceAdd,eq_false hE]
   with_reducible repeat' (first|refine q4t (by repeat' first|exact q0q|refine q0g (by first|exact q51 (by decide)|exact q68 (by decide)|exact q5u (by assumption) (by assumption) (by decide)|exact q2d (by assumption) (by decide)|kernel_rfl) ?_) ?_;try simp only[go_sem,q09,List.append_assoc,List.cons_append,List.nil_append,Nat.reduceLT,Nat.reduceMul,Nat.reduceAdd,eq_false hE]|refine br ?_ ?_<;>intro h e<;>(try simp only[e,go_sem,q09,List.append_assoc,List.cons_append,List.nil_append,Nat.reduceLT,Nat.reduceMul,Nat.reduceAdd,eq_false hE])<;>clear e|rw[q00 (by omega)]|refine sd ?_<;>try simp only[go_sem,q09,List.append_assoc,List.cons_append,List.nil_append,Nat.reduceLT,Nat.reduceMul,Nat.reduceAdd,eq_false hE]|(first|refine cr (ez ..) ?_|refine cr (zm ..) ?_|refine cr (zh ..) ?_|refine cr (f1 ..) ?_|refine cr (f4 ..) ?_)<;>try simp only[go_sem,q09,List.append_assoc,List.cons_append,List.nil_append,Nat.reduceLT,Nat.reduceMul,Nat.reduceAdd,eq_false hE]|fail)
 | true =>
   obtain⟨ho,hn⟩:=Bool.and_eq_true_iff.1 hok
   obtain⟨k,rfl,hk⟩:∃k:Nat,n=k∧k≤6:=by
    simp only[q0j,Bool.and_eq_true,decide_eq_true_eq] at hn
    exact⟨n.toNat,by omega,by omega⟩
   have hx:=qji ho
   have hxd:=hx.rounds k
   have fd:=d8 w k hk hx ho
   rw[(q4g w k).1 ho k rfl hk] at f3 f4
   obtain⟨u,hu⟩:∃u,u=rounds k w:=⟨_,rfl⟩
   rw[←hu] at f3 f4 fd hxd
   have su:=qx1 hxd
   have hbu:∀f∈u.door.flows,ptB f:=λf hf=>smF (su.2.2.1.2 f hf)
   have t0:=su.1.1
   have t1:=su.2.1
   have t2:=su.2.2.1.1
   have t3:=su.2.2.2.1
   have hEu:=q7o hbu
   have hmu:=qdy 1 u
   have eu:=c9 u (by omega) (by omega) (by omega) (by omega) hbu
   simp only[eq_false h1,go_sem]
   with_reducible repeat' (first|refine br ?_ ?_<;>intro h e<;>(try simp only[e,go_sem])<;>clear e|rw[q00 (by omega)]|refine sd ?_<;>try simp only[go_sem]|fail)
   refine q0m f1 rfl rfl ?_
   simp only[go_sem]
   with_reducible repeat' (first|refine br ?_ ?_<;>intro h e<;>(try simp only[e,go_sem])<;>clear e|rw[q00 (by omega)]|refine sd ?_<;>try simp only[go_sem]|(first|refine cr (f3 ..) ?_)<;>try simp only[go_sem]|fail)
   refine newC (u:=w) (d7 w s0 s1 s2 hb s3) 1000000 (by decide) (by first|rfl|simp) (λi hi=>by simp only[q3u];(repeat' first|rw[q01,if_neg (by omega)]|rw[q2e (by omega)]);rfl) λtc td hT hD=>?_
   simp only[go_sem,q09,List.append_assoc,List.cons_append,List.nil_append,Nat.reduceLT,Nat.reduceMul,Nat.reduceAdd,WV]
   with_reducible repeat' (first|refine q4t (by repeat' first|exact q0q|refine q0g (by first|exact q51 (by decide)|exact q68 (by decide)|exact q5u (by assumption) (by assumption) (by decide)|exact q2d (by assumption) (by decide)|kernel_rfl) ?_) ?_;try simp only[go_sem,q09,List.append_assoc,List.cons_append,List.nil_append,Nat.reduceLT,Nat.reduceMul,Nat.reduceAdd,WV]|refine br ?_ ?_<;>intro h e<;>(try simp only[e,go_sem,q09,List.append_assoc,List.cons_append,List.nil_append,Nat.reduceLT,Nat.reduceMul,Nat.reduceAdd,WV])<;>clear e|rw[q00 (by omega)]|refine sd ?_<;>try simp only[go_sem,q09,List.append_assoc,List.cons_append,List.nil_append,Nat.reduceLT,Nat.reduceMul,Nat.reduceAdd,WV]|fail)
   refine newW (w:=w) (u:=u) (b:=100100000) fd 2000000 (by with_reducible repeat' first|exact q1y _ _ _|refine q1g (by omega) ?_|refine q3n (by omega) ?_) (by decide) (by decide) (by first|rfl|simp) (λi hi=>by simp only[q3u];(repeat' first|rw[q01,if_neg (by omega)]|rw[q2e (by omega)]);rfl) λtc td hT hD=>?_
   simp only[go_sem,q09,List.append_assoc,List.cons_append,List.nil_append,Nat.reduceLT,Nat.reduceMul,Nat.reduceAdd,WV]
   with_reducible repeat' (first|refine q4t (by repeat' first|exact q0q|refine q0g (by first|exact q51 (by decide)|exact q68 (by decide)|exact q5u (by assumption) (by assumption) (by decide)|exact q2d (by assumption) (by decide)|kernel_rfl) ?_) ?_;try simp only[go_sem,q09,List.append_assoc,List.cons_append,List.nil_append,Nat.reduceLT,Nat.reduceMul,Nat.reduceAdd,WV]|refine br ?_ ?_<;>intro h e<;>(try simp only[e,go_sem,q09,List.append_assoc,List.cons_append,List.nil_append,Nat.reduceLT,Nat.reduceMul,Nat.reduceAdd,WV])<;>clear e|rw[q00 (by omega)]|refine sd ?_<;>try simp only[go_sem,q09,List.append_assoc,List.cons_append,List.nil_append,Nat.reduceLT,Nat.reduceMul,Nat.reduceAdd,WV]|fail)
   refine q8x (w:=u) (b:=200100000) (v:=(.bool true)) (eu) (by with_reducible repeat' first|exact q1y _ _ _|refine q1g (by omega) ?_|refine q3n (by omega) ?_) (by decide) (by first|rfl|simp) rfl rfl λtc hT=>?_
   simp only[go_sem,q09,List.append_assoc,List.cons_append,List.nil_append,Nat.reduceLT,Nat.reduceMul,Nat.reduceAdd]
   with_reducible repeat' (first|refine q4t (by repeat' first|exact q0q|refine q0g (by first|exact q51 (by decide)|exact q68 (by decide)|exact q5u (by assumption) (by assumption) (by decide)|exact q2d (by assumption) (by decide)|kernel_rfl) ?_) ?_;try simp only[go_sem,q09,List.append_assoc,List.cons_append,List.nil_append,Nat.reduceLT,Nat.reduceMul,Nat.reduceAdd]|refine br ?_ ?_<;>intro h e<;>(try simp only[e,go_sem,q09,List.append_assoc,List.cons_append,List.nil_append,Nat.reduceLT,Nat.reduceMul,Nat.reduceAdd])<;>clear e|rw[q00 (by omega)]|refine sd ?_<;>try simp only[go_sem,q09,List.append_assoc,List.cons_append,List.nil_append,Nat.reduceLT,Nat.reduceMul,Nat.reduceAdd]|fail)
   refine q0m f1 rfl rfl ?_
   simp only[go_sem,q09,List.append_assoc,List.cons_append,List.nil_append,Nat.reduceLT,Nat.reduceMul,Nat.reduceAdd]
   with_reducible repeat' (first|refine q4t (by repeat' first|exact q0q|refine q0g (by first|exact q51 (by decide)|exact q68 (by decide)|exact q5u (by assumption) (by assumption) (by decide)|exact q2d (by assumption) (by decide)|kernel_rfl) ?_) ?_;try simp only[go_sem,q09,List.append_assoc,List.cons_append,List.nil_append,Nat.reduceLT,Nat.reduceMul,Nat.reduceAdd]|refine br ?_ ?_<;>intro h e<;>(try simp only[e,go_sem,q09,List.append_assoc,List.cons_append,List.nil_append,Nat.reduceLT,Nat.reduceMul,Nat.reduceAdd])<;>clear e|rw[q00 (by omega)]|refine sd ?_<;>try simp only[go_sem,q09,List.append_assoc,List.cons_append,List.nil_append,Nat.reduceLT,Nat.reduceMul,Nat.reduceAdd]|fail)
   refine q8x (w:=w) (b:=100100000) (v:=(.bool true)) (c9 w (by omega) (by omega) (by omega) (by omega) hb) (by with_reducible repeat' first|exact q1y _ _ _|refine q1g (by omega) ?_|refine q3n (by omega) ?_) (by decide) (by first|rfl|simp) rfl rfl λtc hT=>?_
   simp only[go_sem,q09,List.append_assoc,List.cons_append,List.nil_append,Nat.reduceLT,Nat.reduceMul,Nat.reduceAdd]
   with_reducible repeat' (first|refine q4t (by repeat' first|exact q0q|refine q0g (by first|exact q51 (by decide)|exact q68 (by decide)|exact q5u (by assumption) (by assumption) (by decide)|exact q2d (by assumption) (by decide)|kernel_rfl) ?_) ?_;try simp only[go_sem,q09,List.append_assoc,List.cons_append,List.nil_append,Nat.reduceLT,Nat.reduceMul,Nat.reduceAdd]|refine br ?_ ?_<;>intro h e<;>(try simp only[e,go_sem,q09,List.append_assoc,List.cons_append,List.nil_append,Nat.reduceLT,Nat.reduceMul,Nat.reduceAdd])<;>clear e|rw[q00 (by omega)]|refine sd ?_<;>try simp only[go_sem,q09,List.append_assoc,List.cons_append,List.nil_append,Nat.reduceLT,Nat.reduceMul,Nat.reduceAdd]|fail)
   refine qg1 (w:=w) (u:=mkW 1 w) (b:=100100000) (v:=.int .i64 (qc0 1 w)) (d10 w 1 hs (by omega) hb) 3000000 (by with_reducible repeat' first|exact q1y _ _ _|refine q1g (by omega) ?_|refine q3n (by omega) ?_) (q0o ..) (q0o ..) (q0o ..) (q19 ..) (λj x y hx hy=>by have:=q2f hx hy;exact⟨by omega,by omega⟩) rfl rfl (λi hi=>by simp only[q3u];(repeat' first|rw[q01,if_neg (by omega)]|rw[q2e (by omega)]);rfl) λtc tc'=>?_
   simp only[go_sem,q09,List.append_assoc,List.cons_append,List.nil_append,Nat.reduceLT,Nat.reduceMul,Nat.reduceAdd,eq_false hE]
   with_reducible repeat' (first|refine q4t (by repeat' first|exact q0q|refine q0g (by first|exact q51 (by decide)|exact q68 (by decide)|exact q5u (by assumption) (by assumption) (by decide)|exact q2d (by assumption) (by decide)|kernel_rfl) ?_) ?_;try simp only[go_sem,q09,List.append_assoc,List.cons_append,List.nil_append,Nat.reduceLT,Nat.reduceMul,Nat.reduceAdd,eq_false hE]|refine br ?_ ?_<;>intro h e<;>(try simp only[e,go_sem,q09,List.append_assoc,List.cons_append,List.nil_append,Nat.reduceLT,Nat.reduceMul,Nat.reduceAdd,eq_false hE])<;>clear e|rw[q00 (by omega)]|refine sd ?_<;>try simp only[go_sem,q09,List.append_assoc,List.cons_append,List.nil_append,Nat.reduceLT,Nat.reduceMul,Nat.reduceAdd,eq_false hE]|fail)
   refine q8x (w:=u) (b:=200100000) (v:=(.bool true)) (eu) (by with_reducible repeat' first|exact q1y _ _ _|refine q1g (by omega) ?_|refine q3n (by omega) ?_) (by decide) (by first|rfl|simp) rfl rfl λtc hT=>?_
   simp only[go_sem,q09,List.append_assoc,List.cons_append,List.nil_append,Nat.reduceLT,Nat.reduceMul,Nat.reduceAdd]
   with_reducible repeat' (first|refine q4t (by repeat' first|exact q0q|refine q0g (by first|exact q51 (by decide)|exact q68 (by decide)|exact q5u (by assumption) (by assumption) (by decide)|exact q2d (by assumption) (by decide)|kernel_rfl) ?_) ?_;try simp only[go_sem,q09,List.append_assoc,List.cons_append,List.nil_append,Nat.reduceLT,Nat.reduceMul,Nat.reduceAdd]|refine br ?_ ?_<;>intro h e<;>(try simp only[e,go_sem,q09,List.append_assoc,List.cons_append,List.nil_append,Nat.reduceLT,Nat.reduceMul,Nat.reduceAdd])<;>clear e|rw[q00 (by omega)]|refine sd ?_<;>try simp only[go_sem,q09,List.append_assoc,List.cons_append,List.nil_append,Nat.reduceLT,Nat.reduceMul,Nat.reduceAdd]|fail)
   refine qg1 (w:=u) (u:=mkW 1 u) (b:=200100000) (v:=.int .i64 (qc0 1 u)) (d10 u 1 su (by omega) hbu) 4000000 (by with_reducible repeat' first|exact q1y _ _ _|refine q1g (by omega) ?_|refine q3n (by omega) ?_) (q0o ..) (q0o ..) (q0o ..) (q19 ..) (λj x y hx hy=>by have:=q2f hx hy;exact⟨by omega,by omega⟩) rfl rfl (λi hi=>by simp only[q3u];(repeat' first|rw[q01,if_neg (by omega)]|rw[q2e (by omega)]);rfl) λtc tc'=>?_
   simp only[go_sem,q09,List.append_assoc,List.cons_append,List.nil_append,Nat.reduceLT,Nat.reduceMul,Nat.reduceAdd]
   with_reducible repeat' (first|refine q4t (by repeat' first|exact q0q|refine q0g (by first|exact q51 (by decide)|exact q68 (by decide)|exact q5u (by assumption) (by assumption) (by decide)|exact q2d (by assumption) (by decide)|kernel_rfl) ?_) ?_;try simp only[go_sem,q09,List.append_assoc,List.cons_append,List.nil_append,Nat.reduceLT,Nat.reduceMul,Nat.reduceAdd]|refine br ?_ ?_<;>intro h e<;>(try simp only[e,go_sem,q09,List.append_assoc,List.cons_append,List.nil_append,Nat.reduceLT,Nat.reduceMul,Nat.reduceAdd])<;>clear e|rw[q00 (by omega)]|refine sd ?_<;>try simp only[go_sem,q09,List.append_assoc,List.cons_append,List.nil_append,Nat.reduceLT,Nat.reduceMul,Nat.reduceAdd]|fail)
   refine qk2 (k:=1) (w:=u) (b:=200100000) (v:=(.int .i64 (qc0 1 u))) (c11 u 1 su (by omega) hbu) (by with_reducible repeat' first|exact q1y _ _ _|refine q1g (by omega) ?_|refine q3n (by omega) ?_) (by decide) (by first|rfl|simp) rfl rfl λtc hT=>?_
   simp only[go_sem,q09,List.append_assoc,List.cons_append,List.nil_append,Nat.reduceLT,Nat.reduceMul,Nat.reduceAdd,eq_false hEu]
   with_reducible repeat' (first|refine q4t (by repeat' first|exact q0q|refine q0g (by first|exact q51 (by decide)|exact q68 (by decide)|exact q5u (by assumption) (by assumption) (by decide)|exact q2d (by assumption) (by decide)|kernel_rfl) ?_) ?_;try simp only[go_sem,q09,List.append_assoc,List.cons_append,List.nil_append,Nat.reduceLT,Nat.reduceMul,Nat.reduceAdd,eq_false hEu]|refine br ?_ ?_<;>intro h e<;>(try simp only[e,go_sem,q09,List.append_assoc,List.cons_append,List.nil_append,Nat.reduceLT,Nat.reduceMul,Nat.reduceAdd,eq_false hEu])<;>clear e|rw[q00 (by omega)]|refine sd ?_<;>try simp only[go_sem,q09,List.append_assoc,List.cons_append,List.nil_append,Nat.reduceLT,Nat.reduceMul,Nat.reduceAdd,eq_false hEu]|(first|refine cr (f1 ..) ?_|refine cr (f4 ..) ?_|refine cr (eu ..) ?_)<;>try simp only[go_sem,q09,List.append_assoc,List.cons_append,List.nil_append,Nat.reduceLT,Nat.reduceMul,Nat.reduceAdd,eq_false hEu]|fail)
   refine qk2 (k:=1) (w:=u) (b:=200100000) (v:=(.int .i64 (qc0 1 u))) (c11 u 1 su (by omega) hbu) (by with_reducible repeat' first|exact q1y _ _ _|refine q1g (by omega) ?_|refine q3n (by omega) ?_) (by decide) (by first|rfl|simp) rfl rfl λtc hT=>?_
   simp only[go_sem,q09,List.append_assoc,List.cons_append,List.nil_append,Nat.reduceLT,Nat.reduceMul,Nat.reduceAdd,eq_false hEu]
   with_reducible repeat' (first|refine q4t (by repeat' first|exact q0q|refine q0g (by first|exact q51 (by decide)|exact q68 (by decide)|exact q5u (by assumption) (by assumption) (by decide)|exact q2d (by assumption) (by decide)|kernel_rfl) ?_) ?_;try simp only[go_sem,q09,List.append_assoc,List.cons_append,List.nil_append,Nat.reduceLT,Nat.reduceMul,Nat.reduceAdd,eq_false hEu]|refine br ?_ ?_<;>intro h e<;>(try simp only[e,go_sem,q09,List.append_assoc,List.cons_append,List.nil_append,Nat.reduceLT,Nat.reduceMul,Nat.reduceAdd,eq_false hEu])<;>clear e|rw[q00 (by omega)]|refine sd ?_<;>try simp only[go_sem,q09,List.append_assoc,List.cons_append,List.nil_append,Nat.reduceLT,Nat.reduceMul,Nat.reduceAdd,eq_false hEu]|fail)
end Go.Proofs.YtpppoklkijmeoaaGreatDoor.W
namespace Go.Proofs.YtpppoklkijmeoaaGreatDoor.fnExactWorldCalm
open Go Go.ChangeShapes Go.WideShapes Go.ChangeAt Go.RowKit Go.Proofs.YtpppoklkijmeoaaGreatDoor.W
theorem q5g {H:Type} {enc:TypeId×Value→H} {C:Checked} {os:Os} {f:FuncId} {fn:Func} {s:OpenSpec} {conds:List PathCond} {apart:Bool} {laid:List (String×DataW Unit)} (w0:World) (args:Array Value) (hos:w0.os=os)
 (hsh:(w0.forCall (λ_ _=>0) ⟨#[],args,[]⟩).Shaped C.prog) (hok:Input.okWideB C.prog (w0.forCall (λ_ _=>0) ⟨#[],args,[]⟩) f ⟨#[],args,[]⟩=true)
 (hrow:s.preRow enc C.prog fn conds apart laid (w0.forCall (λ_ _=>0) ⟨#[],args,[]⟩).memory args) :
 ∃(w:World) (tape:Tape) (i:Input),w.os=os∧(w.forCall tape i).Shaped C.prog∧i.vars=[]∧Input.okWide C.prog (w.forCall tape i) .any w.heap.size f i ∧
  s.preRow enc C.prog fn conds apart laid (w.forCall tape i).memory i.args∧({ modest:=false }:Assume).holds C.prog (lone (Frame.enter C.prog f i.args .normal) [] (w.forCall tape i)) :=
 ⟨w0,λ_ _=>0,⟨#[],args,[]⟩,hos,hsh,(Input.okWide_of_okWideB (base:=0) hok).1,(Input.okWide_of_okWideB hok).2,hrow,by
   simp only[Assume.holds]
   exact⟨by simp,by simp,by simp,by simp,by simp⟩⟩
theorem walk (v0 v1:Value) (W:World) (hs:W.ShapedOpen Tryz.prog) (hL:laidMetH Tryz.prog Rows.fnExactWorldCalmRow.laid W) (hv0:(∃w:M.World,VL.Den W noO noρ noH (wpV w) v0∧qry w)) (hv1:(∃n:Int,VL.Den W noO noρ noH (.int .i64 n) v1)) :
 Calls Tryz.prog 3 #[v0,v1] W λe W'=>e=.returned (.bool true)∧Below W.heap.size W W':=by
 obtain⟨code,hdv0,hl0⟩:=hv0
 obtain⟨more,hdv1⟩:=hv1
 have:=Go.Proofs.YtpppoklkijmeoaaGreatDoor.W.FnR.calls (c3 code more hl0) (us:=[v0,v1]) (gOk rfl hL hs) ⟨rfl,λj a b ha hb=>by
  match j,ha,hb with
  | 0,ha,hb=>cases ha;cases hb;exact hdv0
  | 1,ha,hb=>cases ha;cases hb;exact hdv1
  | j+2,ha,hb=>simp at ha⟩
 exact this
set_option maxRecDepth 100000 in
theorem contract (H:Type) (enc:TypeId×Value→H) (W:World) (base:Nat) (args:Array Value) (ds gs:List (DataW H)) (before:List MemPlace)
 (hval:∀(j:Nat) t v,Tryz.f3.params[j]?=some t→args[j]?=some v→Value.okWide Tryz.prog W .any base t v)
 (hW:DataW.Whole enc Tryz.prog Tryz.f3.params.toList Rows.fnExactWorldCalmSpec.vars false W args.toList ds gs before) (hL:laidMetH Tryz.prog Rows.fnExactWorldCalmRow.laid W) (hs:W.ShapedOpen Tryz.prog) :
 Calls Tryz.prog 3 args W λe W'=>∃v,e=.returned v∧Rows.fnExactWorldCalmSpec.post enc Tryz.prog Tryz.f3 false true false false W args v W':=by
 have hW':=hW
 obtain⟨p,q,hA0,hV,rfl,hfz,hnd⟩:=hW
 have hA:DataW.TrodAll enc Tryz.prog W 0 (λ_=>true) true Tryz.f3.params.toList args.toList ds p:=hA0
 rw[Tryz.params3] at hA hval
 obtain⟨v0,r0s,d0,d0s,p0,q0,hargs0,rfl,rfl,h0,r0⟩:=trodAll_cons hA
 obtain⟨v1,r1s,d1,d1s,p1,q1,hargs1,rfl,rfl,h1,r1⟩:=trodAll_cons r0
 obtain⟨e1,e2,e3⟩:=trodAll_nil r1
 subst e1 e2 e3
 obtain rfl:args=#[v0,v1]:=by cases args;simp_all
 obtain⟨rfl,rfl⟩:=trodVars_none hV
 obtain⟨a0,hv0,len0⟩:=okWide_struct Tryz.underlying29 (hval 0 29 v0 rfl rfl)
 have k0:=h0
 have lt0:∀x∈p0,x.block<W.heap.size:=by obtain⟨m,hm⟩:=k0;exact DataW.trod_lt m _ _ _ hm
 have hc0:=q9q h0 ⟨a0,hv0⟩
 have k1:=h1
 have lt1:∀x∈p1,x.block<W.heap.size:=by obtain⟨m,hm⟩:=k1;exact DataW.trod_lt m _ _ _ hm
 have hc1:∃n:Int,VL.Den W noO noρ noH (.int .i64 n) v1:=by
  obtain⟨n,e,_,_,_⟩:=open_int Tryz.underlying3 (hval 1 3 v1 rfl rfl) h1
  exact⟨n,e▸VL.Imm.int _ _⟩
 clear hA0
 refine(walk v0 v1 W hs hL hc0 hc1).mono λe W' ⟨he,bel⟩=>?_
 subst he
 exact⟨_,rfl,_,_,_,[],_,[],hW',trodAll_mk1 (shut_bool Tryz.underlying4 _),(trodAll_cons_mk (Below.trod q71 (by kernel_rfl) (of_decide_eq_true (by kernel_rfl)) k0 bel lt0) (trodAll_cons_mk (Below.trod q71 (by kernel_rfl) (of_decide_eq_true (by kernel_rfl)) k1 bel lt1) trodAll_mk0)),rfl,bel.frame _,λh=>by cases h⟩
theorem inP:(Rows.fnExactWorldCalmRow.inPlace==Tryz.prog.inPlace 3)=true:=by kernel_rfl
theorem unf:(Rows.fnExactWorldCalmRow.unfollowed==Tryz.prog.unfollowed 3)=true:=by kernel_rfl
theorem rcs:(Rows.fnExactWorldCalmRow.recurses==Tryz.prog.recurses 3)=true:=by kernel_rfl
theorem nam:(Rows.fnExactWorldCalmRow.named==Tryz.prog.varsNamed 3)=true:=by kernel_rfl
theorem lif:(Rows.fnExactWorldCalmRow.lifted==Tryz.prog.liftsFinal)=true:=lifF
theorem pke:(Rows.fnExactWorldCalmRow.plainKeys==Tryz.prog.plainKeys)=true:=pkeF
theorem mak:(Tryz.prog.make==some Rows.fnExactWorldCalmRow.make)=true:=makF
theorem closed0:joinedFacts Tryz.prog 3 Tryz.f3 Rows.fnExactWorldCalmSpec Rows.fnExactWorldCalmRow=true:=by
 unfold joinedFacts
 rw[q71,mapF,inP,unf,rcs,nam,pke,stoF,mayF,lif,mak]
 kernel_rfl
theorem closed:joinedFacts Tryz.pinned.checked.prog 3 Tryz.f3 (OpenSpec.ofChange Rows.fnExactWorldCalmSpec).bare Rows.fnExactWorldCalmRow=true :=
 (show joinedFacts Tryz.pinned.checked.prog 3 Tryz.f3 (OpenSpec.ofChange Rows.fnExactWorldCalmSpec).bare Rows.fnExactWorldCalmRow=joinedFacts Tryz.prog 3 Tryz.f3 Rows.fnExactWorldCalmSpec Rows.fnExactWorldCalmRow by kernel_rfl).trans closed0
theorem door_met (os:Os) (args:Array Value):laidMetH Tryz.prog Rows.fnExactWorldCalmRow.laid ((World.laidAll Tryz.prog os Rows.fnExactWorldCalmRow.laid).forCall (λ_ _=>0) ⟨#[],args,[]⟩).memory :=
 by rw[MakeChecks.laidMetH_plain _ _ _ (by kernel_rfl)];exact laidMet_laidAll _ (by kernel_rfl) (by kernel_rfl)
theorem reads (os:Os) {H:Type} (enc:TypeId×Value→H):∃places,DataW.whole enc Tryz.prog ((World.laidAll Tryz.prog os Rows.fnExactWorldCalmRow.laid).forCall (λ_ _=>0) ⟨#[],#[Value.agg #[.slice none 0 0,.slice none 0 0,.slice none 0 0,.slice none 0 0],Value.int .i64 0],[]⟩).memory Tryz.f3.params.toList Rows.fnExactWorldCalmSpec.vars false #[Value.agg #[.slice none 0 0,.slice none 0 0,.slice none 0 0,.slice none 0 0],Value.int .i64 0].toList 8=some ([.agg [.nil,.agg [.nil,.nil],.nil],.lit (.int .i64 0)],[],places) :=
 ⟨[],by kernel_rfl⟩
set_option maxRecDepth 100000 in
theorem lifted (os:Os) (started:os.Started) (H:Type) (enc:TypeId×Value→H) (F:Stop.Interp) :
 ReturnsInHanded {} Tryz.checked os 3 .any ((OpenSpec.ofChange Rows.fnExactWorldCalmSpec).preRow enc Tryz.prog Tryz.f3 Rows.fnExactWorldCalmRow.domain false Rows.fnExactWorldCalmRow.laid) (((OpenSpec.ofChange Rows.fnExactWorldCalmSpec).at F).post enc Tryz.prog Tryz.f3 false true false false):=by
 obtain⟨places,hx⟩:=reads os enc
 refine returnsInHanded_of_row (C:=Tryz.checked) (s:=OpenSpec.ofChange Rows.fnExactWorldCalmSpec) own started (by kernel_rfl) Tryz.func3
  (q5g (enc:=enc) (C:=Tryz.checked) (World.laidAll Tryz.prog os Rows.fnExactWorldCalmRow.laid) #[Value.agg #[.slice none 0 0,.slice none 0 0,.slice none 0 0,.slice none 0 0],Value.int .i64 0] (World.laidAll_os _ _ _) (World.shaped_of_ZipB (by kernel_rfl) (by kernel_rfl)) (by kernel_rfl)
    (OpenSpec.preRow_of_cond 8 hx (by kernel_rfl) (λk hk=>by cases hk) (by kernel_rfl) (door_met os _))) ?_
 intro W base args ds gs before hval hW _ _ _ hL hs _
 exact contract H enc W base args ds gs before hval hW hL hs
theorem said:Rows.FnExactWorldCalmSaid :=
 OpenClaim.holds_of_cond 3 Tryz.f3 rfl rfl rfl rfl rfl rfl rfl ⟨rfl,rfl,rfl,rfl,rfl⟩ rfl rfl rfl rfl rfl (by kernel_rfl) Tryz.func3 closed
  (of_decide_eq_true (by kernel_rfl)) (by unfold Func.isWrapper;first|(rw[if_pos (by decide +kernel)];kernel_rfl)|(rw[if_neg (by decide +kernel)];exact⟨rfl,rfl⟩))
  (λos started H enc _ F=>by rw[OpenClaim.pre_eq_preRow];exact lifted os started H enc F)
theorem plain (f:FuncId) (fn:Func) (hf:Tryz.pinned.checked.prog.funcNamed "loop.example/ostiary/laws.FnExactWorldCalm"=some f) (hfn:Tryz.pinned.checked.prog.funcs[f]?=some fn) :
 true=Tryz.pinned.checked.prog.looks []∧∀(j:Nat) t,fn.params[j]?=some t→Tryz.pinned.checked.prog.wantsStandIn t=false:=by
 obtain rfl:f=3:=Option.some.inj ((show Tryz.prog.funcNamed "loop.example/ostiary/laws.FnExactWorldCalm"=some 3 by kernel_rfl).symm.trans hf) |>.symm
 obtain rfl:fn=Tryz.f3:=(Option.some.inj (Tryz.func3.symm.trans hfn)).symm
 refine⟨by kernel_rfl,λj t ht=>?_⟩
 rw[Tryz.params3] at ht
 have:t=29∨t=3:=by simpa using Array.mem_of_getElem? ht
 rcases this with rfl|rfl
 ·exact(show Tryz.prog.wantsStandIn 29=false by kernel_rfl)
 ·exact(show Tryz.prog.wantsStandIn 3=false by kernel_rfl)
theorem card:Rows.FnExactWorldCalmCardSaid :=
 Claim7.holds_tied_plain_at .later [] _ _ _ _ said (λ_ h=>by cases h) (by kernel_rfl) (λ_ h=>by cases h) fnExactWorldCalm_row_tie rfl ⟨rfl,rfl⟩ (by kernel_rfl) rfl plain (by kernel_rfl)
end Go.Proofs.YtpppoklkijmeoaaGreatDoor.fnExactWorldCalm
