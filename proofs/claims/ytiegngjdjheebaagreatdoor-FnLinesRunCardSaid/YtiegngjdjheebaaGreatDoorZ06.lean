/- Part 6 of the proof: the walk over values, the plain model, contracts of the functions of the program. -/
import Derived.Test.YtiegngjdjheebaaGreatDoorZ05
import Derived.Test.YtiegngjdjheebaaGreatDoorZ03
import Derived.Test.YtiegngjdjheebaaGreatDoorZ04
set_option linter.all false
namespace Go.Proofs.YtiegngjdjheebaaGreatDoor.W
open Go Go.RowKit Go.Proofs Go.Proofs.YtiegngjdjheebaaGreatDoor.VL Go.Proofs.YtiegngjdjheebaaGreatDoor.M
def ic90:IC:=sR [oP 4 (.box 70 (.t 1))] (sR [oP 6 (.mv (.c i0))] (.block 0 (.loop (.seq (sR [mV 7 2,mV 8 7,⟨some 9,some (8,true),.mv (.t 6)⟩,⟨some 10,some (8,true),.bin .lss (.t 9) (.c (.int .i64 4))⟩,oP 11 (.pick (.t 8) (.t 10) (.c (.bool false)))] (.cond (.t 11) .skip (.exit 0))) (.seq (.block 1 (.reg [mV 15 0,lA 16 7 4,oP 17 (.call 80 [.t 15,.t 16]),mV 14 17,eX 18 14 0,eX 19 14 1,nP (.sto 7 (.t 4) (.t 18)),mV 2 19])) (.reg [mV 12 6,oP 13 (.bin .add (.t 12) (.c (.int .i64 1))),mV 6 13]))))))
theorem dg90:Dg Tryz.prog 90 Tryz.f90 ic90 []:=⟨Tryz.func90,by kernel_rfl,by kernel_rfl⟩
theorem c90 {X:List (E×E)} (w:M.World) (p:Pk) (ok:Bool) (hw:WX X w) (hp:ok=true→NetX X w.convs p):FnP Tryz.prog G 90 1 [.var 41 [.own 2 w.convs.length,.sl 3 (w.door.map.map Pair.row),.own 1 w.door.flows.length,.own 3 w.nets.length],.arr 181 8 (w.door.flows.map Flw.row),.arr 47 10 (w.convs.map Conv.row),.arr 70 7 (w.nets.map Pk.row)] [.pv 0 0,.agg [.int .i64 p.kind,.int .i64 p.frm.a,.int .i64 p.frm.p,.int .i64 p.to.a,.int .i64 p.to.p,.int .i64 p.at_,.str p.text],.bool ok] (fun r o=>r=.tup []∧∃v,v=through 4 w (bif ok then some p else none)∧o=[.var 41 [.own 2 v.convs.length,.sl 3 (v.door.map.map Pair.row),.own 1 v.door.flows.length,.own 3 v.nets.length],.arr 181 8 (v.door.flows.map Flw.row),.arr 47 10 (v.convs.map Conv.row),.arr 70 7 (v.nets.map Pk.row)]):=by
 refine mP dg90 Tryz.ntmps90 ⟨_,_,rfl,_,rfl,rfl⟩ ?_
 have fin:∀l mm (v:M.World),v=through 4 w (bif ok then some p else none)→getH mm 0=.var 41 [.own 2 v.convs.length,.sl 3 (v.door.map.map Pair.row),.own 1 v.door.flows.length,.own 3 v.nets.length]→getH mm 1=.arr 181 8 (v.door.flows.map Flw.row)→getH mm 2=.arr 47 10 (v.convs.map Conv.row)→getH mm 3=.arr 70 7 (v.nets.map Pk.row) →
  retQ [] 1 (fun r o=>r=.tup []∧∃v,v=through 4 w (bif ok then some p else none)∧o=[.var 41 [.own 2 v.convs.length,.sl 3 (v.door.map.map Pair.row),.own 1 v.door.flows.length,.own 3 v.nets.length],.arr 181 8 (v.door.flows.map Flw.row),.arr 47 10 (v.convs.map Conv.row),.arr 70 7 (v.nets.map Pk.row)]) .normal ⟨getL l,getH mm⟩:=fun l mm v h0 h1 h2 h3 h4=>by
  show retQ _ _ _ .ret _
  refine retN (.tup []) [.var 41 [.own 2 v.convs.length,.sl 3 (v.door.map.map Pair.row),.own 1 v.door.flows.length,.own 3 v.nets.length],.arr 181 8 (v.door.flows.map Flw.row),.arr 47 10 (v.convs.map Conv.row),.arr 70 7 (v.nets.map Pk.row)] [] (by simp only[go_sem,resL_0]) ⟨rfl,v,h0,rfl⟩ ?_ (by simp[argH,getN]) (by simp only[go_sem])
  simp only[go_sem,h1,h2,h3,h4]
 simp only[ic90,go_sem]
 refine loopN (fun a:Nat×M.World×Pk×Bool=>⟨getL [(0,.pv 0 0),(2,.bool a.2.2.2),(4,.pv 1004 0),(6,.int .i64 (a.1:Int))],getH [(0,.var 41 [.own 2 a.2.1.convs.length,.sl 3 (a.2.1.door.map.map Pair.row),.own 1 a.2.1.door.flows.length,.own 3 a.2.1.nets.length]),(1,.arr 181 8 (a.2.1.door.flows.map Flw.row)),(2,.arr 47 10 (a.2.1.convs.map Conv.row)),(3,.arr 70 7 (a.2.1.nets.map Pk.row)),(1004,.var 70 (Pk.row a.2.2.1))]⟩)
  (fun a=>4 - a.1) (fun a=>a.1≤4∧WX X a.2.1∧(a.2.2.2=true→NetX X a.2.1.convs a.2.2.1)∧through 4 w (bif ok then some p else none)=through (4 - a.1) a.2.1 (bif a.2.2.2 then some a.2.2.1 else none)) (0,w,p,ok) (leQ []) ⟨Nat.zero_le _,hw,hp,rfl⟩ ?_
 intro⟨n,v,q,b⟩ ⟨hn,hv,hq,he⟩
 simp only at hn hv hq he
 simp only[go_sem]
 cases b
 ·simp only[go_sem]
  rw[cond_false,through_none] at he
  exact fin _ _ v he.symm (by simp only[go_sem]) (by simp only[go_sem]) (by simp only[go_sem]) (by simp only[go_sem])
 by_cases h:(n:Int)<4
 ·have hq:=hq rfl
  obtain⟨k1,k2⟩:=carry_X hv hq
  have e4:4 - n=(4 - (n+1))+1:=by omega
  rw[cond_true,e4] at he
  simp only[through] at he
  simp only[eq_true h,go_sem]
  refine callN (x80 v q hv hq.pk) [0,1,2,3] [] true 17 4 (by simp only[go_sem];first|done|simp) (by simp only[go_sem];first|done|simp) (by simp) (by simp) (by simp) ?_ ?_ ?_
  ·rintro res out ⟨q,rfl,hq,rfl⟩
   exact⟨by simp,by simp,.inl rfl,fun i hi=>by obtain rfl:i=0:=(by omega);simp[chH,stepOk]⟩
  ·intro i hi
   rcases(show i=0∨i=1∨i=2∨i=3 by omega) with rfl|rfl|rfl|rfl<;>simp only[go_sem]
  rintro res out ⟨q',rfl,hq',rfl⟩
  generalize carry v q=x at *
  obtain⟨v',o⟩:=x
  simp only at k1 k2 he hq'
  have ho:(bif o.isSome then some q' else none)=o:=by
   cases o with
   | none=>rfl
   | some y=>rw[hq' y rfl];rfl
  simp only[go_sem]
  with_reducible repeat' (first|rw[i64w (by omega)];try simp only[go_sem]|refine br ?_ ?_<;>intro h e<;>(try simp only[e,go_sem])<;>clear e|refine sd ?_<;>try simp only[go_sem]|fail)
  exact⟨(n+1,v',q',o.isSome),by simp only;omega,⟨by simp only;omega,k1,fun hb=>k2 q' (by rw[←ho];simp only at hb;rw[hb];rfl),by simp only;rw[ho];exact he⟩,(leQ [(1,101701),(2,101702),(3,101703)])⟩
 ·simp only[eq_false h,go_sem]
  have e0:4 - n=0:=by omega
  rw[e0] at he
  exact fin _ _ v he.symm (by simp only[go_sem]) (by simp only[go_sem]) (by simp only[go_sem]) (by simp only[go_sem])
theorem range_at {n k:Nat} (h:k<n):(List.range n).drop k=k::(List.range n).drop (k+1):=by
 have:=List.drop_eq_getElem_cons (l:=List.range n) (i:=k) (by simpa using h)
 rw[this];simp
theorem sayRound_e {w:M.World} {i:Nat} {c c1:Conv} (h:w.convs[i]?=some c) {o1 o2:Option Pk} {w1:M.World} (h1:say c true 0 c.upAck 24=o1) (hw:w1=through 4 w o1) (hc:w1.convs[i]?=some c1) (h2:say c1 false (portOf w1.door.map c1.ins) c1.downAck 24=o2):sayRound w i=through 4 w1 o2:=by
 unfold sayRound
 rw[h]
 simp only
 rw[h1,←hw,hc]
 simp only
 rw[h2]
def ic49:IC:=sR [mV 6 0,oP 7 (.nilc (.t 6)),fD 8 3 7,lD 9 1 8,mV 2 9] (sR [mV 10 0,oP 11 (.nilc (.t 10)),fD 12 3 11,nP (.sto 1 (.t 12) (.c .nils))] (.seq (sR [mV 13 2,oP 14 (.len (.t 13)),oP 15 (.mv (.c i0))] (.block 0 (.loop (sR [bN 16 .lss 15 14] (.seq (.cond (.t 16) .skip (.exit 0)) (.seq (.block 1 (sR [oP 17 (.iad 7 (.t 13) (.t 15)),lA 18 7 17,oP 4 (.alloc 70 [i0,i0,i0,i0,i0,i0,s0]),nP (.sto 7 (.t 4) (.t 18))] (.reg [mV 19 0,lA 20 7 4,oP 21 (.call 90 [.t 19,.t 20,.c (.bool true)])]))) (.reg [oP 22 (.bin .add (.t 15) (.c (.int .i64 1))),mV 15 22]))))))) (sR [mV 23 0,oP 24 (.nilc (.t 23)),fD 25 0 24,lD 26 1 25,oP 27 (.len (.t 26)),oP 28 (.mv (.c i0))] (.block 2 (.loop (sR [bN 29 .lss 28 27] (.seq (.cond (.t 29) .skip (.exit 2)) (.seq (.block 3 (sR [mV 30 28,mV 5 30] (.seq (.drw [0,0,2,6,14,0,62,126,0,256,768,1792,0,7936,16128,32512,65534,131070,131070,524287] [(0,mV 31 0),(1,mV 32 0),(2,oP 33 (.nilc (.t 32))),(3,fD 34 0 33),(4,lD 35 1 34),(5,mV 36 5),(6,oP 37 (.iad 10 (.t 35) (.t 36))),(7,lA 38 10 37),(8,mV 39 0),(9,oP 40 (.nilc (.t 39))),(10,fD 41 0 40),(11,lD 42 1 41),(12,mV 43 5),(13,oP 44 (.iad 10 (.t 42) (.t 43))),(14,fD 45 6 44),(15,lD 46 1 45),(16,oP 47 (.call 78 [.t 38,.c (.bool true),.c i0,.t 46,.c (.int .i64 24)])),(17,eX 48 47 0),(18,eX 49 47 1),(19,oP 50 (.call 90 [.t 31,.t 48,.t 49]))]) (.drw [0,0,2,6,14,0,62,126,0,0,768,0,2048,6144,14336,0,63488,129024,260096,524286,1048574,1048574,4194303] [(0,mV 51 0),(1,mV 52 0),(2,oP 53 (.nilc (.t 52))),(3,fD 54 0 53),(4,lD 55 1 54),(5,mV 56 5),(6,oP 57 (.iad 10 (.t 55) (.t 56))),(7,lA 58 10 57),(8,mV 59 0),(9,mV 60 5),(10,oP 61 (.call 79 [.t 59,.t 60])),(11,mV 62 0),(12,oP 63 (.nilc (.t 62))),(13,fD 64 0 63),(14,lD 65 1 64),(15,mV 66 5),(16,oP 67 (.iad 10 (.t 65) (.t 66))),(17,fD 68 7 67),(18,lD 69 1 68),(19,oP 70 (.call 78 [.t 58,.c (.bool false),.t 61,.t 69,.c (.int .i64 24)])),(20,eX 71 70 0),(21,eX 72 70 1),(22,oP 73 (.call 90 [.t 51,.t 71,.t 72]))])))) (.reg [oP 74 (.bin .add (.t 28) (.c (.int .i64 1))),mV 28 74])))))))))
theorem dg49:Dg Tryz.prog 49 Tryz.f49 ic49 []:=⟨Tryz.func49,by kernel_rfl,by kernel_rfl⟩
set_option maxHeartbeats 1000000 in
theorem c49 {X:List (E×E)} (w:M.World) (hw:WX X w):FnP Tryz.prog G 49 1 [.var 41 [.own 2 w.convs.length,.sl 3 (w.door.map.map Pair.row),.own 1 w.door.flows.length,.own 3 w.nets.length],.arr 181 8 (w.door.flows.map Flw.row),.arr 47 10 (w.convs.map Conv.row),.arr 70 7 (w.nets.map Pk.row)] [.pv 0 0] (fun r o=>r=.tup []∧∃v,v=M.round w∧o=[.var 41 [.own 2 v.convs.length,.sl 3 (v.door.map.map Pair.row),.own 1 v.door.flows.length,.own 3 v.nets.length],.arr 181 8 (v.door.flows.map Flw.row),.arr 47 10 (v.convs.map Conv.row),.arr 70 7 (v.nets.map Pk.row)]):=by
 refine mP dg49 Tryz.ntmps49 ⟨_,_,rfl,_,rfl,rfl⟩ ?_
 have hnl:=hw.nl
 have hcl:=hw.cl
 have opt_i:∀o:Option Pk,(bif o.isSome then some (o.getD .zero) else none)=o:=fun o=>by cases o<;>rfl
 simp only[ic49,go_sem]
 with_reducible repeat' (first|refine br ?_ ?_<;>intro h e<;>(try simp only[e,go_sem])<;>clear e|rw[i64w (by omega)]|refine sd ?_<;>try simp only[go_sem]|fail)
 refine loopN (fun a:Nat×M.World=>⟨getL [(0,.pv 0 0),(13,.own 3 w.nets.length),(14,.int .i64 w.nets.length),(15,.int .i64 (a.1:Int))],getH [(0,.var 41 [.own 2 a.2.convs.length,.sl 3 (a.2.door.map.map Pair.row),.own 1 a.2.door.flows.length,.own 200003 a.2.nets.length]),(1,.arr 181 8 (a.2.door.flows.map Flw.row)),(2,.arr 47 10 (a.2.convs.map Conv.row)),(200003,.arr 70 7 (a.2.nets.map Pk.row)),(3,.arr 70 7 (w.nets.map Pk.row))]⟩)
  (fun a=>w.nets.length - a.1) (fun a=>a.1≤w.nets.length∧WX X a.2∧Ext w a.2∧w.nets.foldl (fun w p=>through 4 w (some p)) { w with nets:=[] }=(w.nets.drop a.1).foldl (fun w p=>through 4 w (some p)) a.2) (0,{ w with nets:=[] })
  (St.le_trans (nilOwn (row:=[.own 2 w.convs.length,.sl 3 (w.door.map.map Pair.row),.own 1 w.door.flows.length,.nils]) 0 200003 70 7 41 3 (by simp only[go_sem]) (by decide) (by simp only[go_sem]) rfl) (leN [] (by simp only[go_sem]) (by simp only[go_sem,List.set_cons_succ,List.set_cons_zero]) (by simp[getN]) (by simp only[go_sem]))) ⟨Nat.zero_le _,hw.empty,.same rfl rfl,by simp⟩ ?_
 intro⟨k,v⟩ ⟨hk,hv,hx,he⟩
 simp only at hk hv hx he
 simp only[go_sem]
 by_cases h:(k:Int)<w.nets.length
 ·have hil:k<w.nets.length:=by omega
  have hg:w.nets.getD k default=w.nets[k]:=by simp[List.getD,hil]
  rw[List.drop_eq_getElem_cons hil,List.foldl_cons] at he
  have hnp:=(hw.net _ (List.getElem_mem hil)).ext hx
  generalize w.nets[k]=p at *
  simp only[eq_true h,go_sem]
  with_reducible repeat' (first|rw[i64w (by omega)];try simp only[go_sem,getD_mp hil,hg]|refine br ?_ ?_<;>intro h e<;>(try simp only[e,go_sem,getD_mp hil,hg])<;>clear e|refine sd ?_<;>try simp only[go_sem,getD_mp hil,hg]|fail)
  refine callN (c90 v p true hv (fun _=>hnp)) [0,1,2,200003] [] true 21 4 (by simp only[go_sem];first|done|simp) (by simp only[go_sem];first|done|simp) (by simp) (by simp) (by simp) ?_ ?_ ?_
  ·rintro _ _ ⟨rfl,v',hv',rfl⟩
   exact⟨by simp,by simp,.inl rfl,fun i hi=>by obtain rfl:i=0:=(by omega);simp[chH,stepOk]⟩
  ·intro i hi
   rcases(show i=0∨i=1∨i=2∨i=3 by omega) with rfl|rfl|rfl|rfl<;>simp only[go_sem]
  rintro _ _ ⟨rfl,v',hv',rfl⟩
  simp only[go_sem]
  with_reducible repeat' (first|rw[i64w (by omega)];try simp only[go_sem]|refine br ?_ ?_<;>intro h e<;>(try simp only[e,go_sem])<;>clear e|refine sd ?_<;>try simp only[go_sem]|fail)
  rw[cond_true] at hv'
  exact⟨(k+1,v'),by simp only;omega,⟨by simp only;omega,by rw[hv'];exact hv.through 4 (fun q hq=>by cases hq;exact hnp),by rw[hv'];exact hx.trans (through_ext 4 _ _),by rw[hv'];exact he⟩,(leQ [(1,102101),(2,102102),(200003,102103)])⟩
 simp only[eq_false h,go_sem]
 obtain rfl:k=w.nets.length:=by omega
 rw[List.drop_length,List.foldl_nil] at he
 have hrd:M.round w=(List.range v.convs.length).foldl sayRound v:=by rw[←he];rfl
 clear he hx h
 with_reducible repeat' (first|refine br ?_ ?_<;>intro h e<;>(try simp only[e,go_sem])<;>clear e|rw[i64w (by omega)]|refine sd ?_<;>try simp only[go_sem]|fail)
 have hvl:=hv.cl
 generalize hn:v.convs.length=n at *
 refine loopN (fun a:Nat×M.World=>⟨getL [(0,.pv 0 0),(27,.int .i64 n),(28,.int .i64 (a.1:Int))],getH [(0,.var 41 [.own 2 a.2.convs.length,.sl 3 (a.2.door.map.map Pair.row),.own 1 a.2.door.flows.length,.own 200003 a.2.nets.length]),(1,.arr 181 8 (a.2.door.flows.map Flw.row)),(2,.arr 47 10 (a.2.convs.map Conv.row)),(200003,.arr 70 7 (a.2.nets.map Pk.row))]⟩)
  (fun a=>n - a.1) (fun a=>a.1≤n∧WX X a.2∧a.2.convs.length=n∧M.round w=((List.range n).drop a.1).foldl sayRound a.2) (0,v) (leQ []) ⟨Nat.zero_le _,hv,hn,by simpa using hrd⟩ ?_
 clear hrd hv hn v
 intro⟨k,v⟩ ⟨hk,hv,hn,he⟩
 simp only at hk hv hn he
 simp only[go_sem]
 by_cases h:(k:Int)<n
 ·have hil:k<v.convs.length:=by omega
  have hg:v.convs.getD k default=v.convs[k]:=by simp[List.getD,hil]
  have hg2:=zE hil
  have hcb:=convOk_B (hv.cv _ (List.getElem_mem hil))
  have hcm:=List.getElem_mem hil
  rw[range_at (by omega),List.foldl_cons] at he
  generalize v.convs[k]=c at *
  have fs:=c78 c true 0 c.upAck 24 (by have:=hcb.up;omega) (by have:=hcb.down;omega)
  have hsn:∀p,say c true 0 c.upAck 24=some p→NetX X v.convs p:=fun p hp=>(say_net hcm (hv.cv c hcm) hp).x
  simp only[eq_true h,go_sem]
  with_reducible repeat' (first|rw[i64w (by omega)];try simp only[go_sem,getD_mp hil,hg]|refine br ?_ ?_<;>intro h e<;>(try simp only[e,go_sem,getD_mp hil,hg])<;>clear e|refine sd ?_<;>try simp only[go_sem,getD_mp hil,hg]|(first|refine cr (fs ..) ?_)<;>try simp only[go_sem,getD_mp hil,hg]|fail)
  generalize ho:say c true 0 c.upAck 24=o at *
  refine callN (c90 v (o.getD .zero) o.isSome hv (fun hb=>hsn _ (by cases o with|none=>cases hb|some y=>rfl))) [0,1,2,200003] [] true 50 4 (by simp only[go_sem];first|done|simp) (by simp only[go_sem];first|done|simp) (by simp) (by simp) (by simp) ?_ ?_ ?_
  ·rintro _ _ ⟨rfl,v',hv',rfl⟩
   exact⟨by simp,by simp,.inl rfl,fun i hi=>by obtain rfl:i=0:=(by omega);simp[chH,stepOk]⟩
  ·intro i hi
   rcases(show i=0∨i=1∨i=2∨i=3 by omega) with rfl|rfl|rfl|rfl<;>simp only[go_sem]
  rintro _ _ ⟨rfl,v1,hv1,rfl⟩
  rw[opt_i] at hv1
  have hw1:WX X v1:=by rw[hv1];exact hv.through 4 hsn
  have hx1:Ext v v1:=by rw[hv1];exact through_ext 4 _ _
  have hil1:k<v1.convs.length:=by rw[hx1.len];exact hil
  have hg1:v1.convs.getD k default=v1.convs[k]:=by simp[List.getD,hil1]
  have hg3:=zE hil1
  have hcb1:=convOk_B (hw1.cv _ (List.getElem_mem hil1))
  have hcm1:=List.getElem_mem hil1
  have hml1:=(mapOk_ports (doorOk_iff.1 hw1.door).1).2
  have fp:=c79 v1 k hil1 (by omega)
  rw[hg1] at fp
  generalize v1.convs[k]=c1 at *
  have fs1:=c78 c1 false (portOf v1.door.map c1.ins) c1.downAck 24 (by have:=hcb1.up;omega) (by have:=hcb1.down;omega)
  have hsn1:∀p,say c1 false (portOf v1.door.map c1.ins) c1.downAck 24=some p→NetX X v1.convs p:=fun p hp=>(say_net hcm1 (hw1.cv c1 hcm1) hp).x
  simp only[go_sem]
  with_reducible repeat' (first|rw[i64w (by omega)];try simp only[go_sem,getD_mp hil1,hg1]|refine br ?_ ?_<;>intro h e<;>(try simp only[e,go_sem,getD_mp hil1,hg1])<;>clear e|refine sd ?_<;>try simp only[go_sem,getD_mp hil1,hg1]|fail)
  refine callRd fp [0,105001,105002,105003] 61 4 (by simp only[go_sem];first|done|simp) (by simp only[go_sem];first|done|simp) (by simp) (by simp) ?_ ?_ ?_ ?_
  ·rintro _ _ ⟨rfl,rfl⟩
   exact⟨by simp,by simp,fun i hi=>by rcases(show i=0∨i=1∨i=2∨i=3 by omega) with rfl|rfl|rfl|rfl<;>simp[chH,stepOk]⟩
  ·intro i hi
   rcases(show i=0∨i=1∨i=2∨i=3 by omega) with rfl|rfl|rfl|rfl<;>simp only[go_sem]
  ·rintro _ _ ⟨rfl,rfl⟩ x hx
   simp only[go_sem,List.drop_succ_cons,List.drop_nil,List.append_nil,List.mem_cons,List.not_mem_nil,or_false] at hx
   rcases hx with rfl|rfl|rfl|rfl<;>simp only[go_sem]
  rintro _ _ ⟨rfl,rfl⟩
  simp only[go_sem]
  with_reducible repeat' (first|rw[i64w (by omega)];try simp only[go_sem,getD_mp hil1,hg1]|refine br ?_ ?_<;>intro h e<;>(try simp only[e,go_sem,getD_mp hil1,hg1])<;>clear e|refine sd ?_<;>try simp only[go_sem,getD_mp hil1,hg1]|(first|refine cr (fs1 ..) ?_)<;>try simp only[go_sem,getD_mp hil1,hg1]|fail)
  generalize ho1:say c1 false (portOf v1.door.map c1.ins) c1.downAck 24=o1 at *
  have hse:=sayRound_e hg2 ho hv1 hg3 ho1
  refine callN (c90 v1 (o1.getD .zero) o1.isSome hw1 (fun hb=>hsn1 _ (by cases o1 with|none=>cases hb|some y=>rfl))) [0,105001,105002,105003] [] true 73 4 (by simp only[go_sem];first|done|simp) (by simp only[go_sem];first|done|simp) (by simp) (by simp) (by simp) ?_ ?_ ?_
  ·rintro _ _ ⟨rfl,v',hv',rfl⟩
   exact⟨by simp,by simp,.inl rfl,fun i hi=>by obtain rfl:i=0:=(by omega);simp[chH,stepOk]⟩
  ·intro i hi
   rcases(show i=0∨i=1∨i=2∨i=3 by omega) with rfl|rfl|rfl|rfl<;>simp only[go_sem]
  rintro _ _ ⟨rfl,v2,hv2,rfl⟩
  rw[opt_i] at hv2
  simp only[go_sem]
  with_reducible repeat' (first|rw[i64w (by omega)];try simp only[go_sem]|refine br ?_ ?_<;>intro h e<;>(try simp only[e,go_sem])<;>clear e|refine sd ?_<;>try simp only[go_sem]|fail)
  rw[hse,←hv2] at he
  exact⟨(k+1,v2),by simp only;omega,⟨by simp only;omega,by rw[hv2];exact hw1.through 4 hsn1,by rw[hv2];simp only;rw[(through_ext 4 v1 o1).len,hx1.len,hn],he⟩,(leQ [(1,107301),(2,107302),(200003,107303)])⟩
 ·simp only[eq_false h,go_sem]
  obtain rfl:k=n:=by omega
  rw[show(List.range k).drop k=[] by simp,List.foldl_nil] at he
  show retQ _ _ _ .ret _
  refine retN (.tup []) [.var 41 [.own 2 v.convs.length,.sl 3 (v.door.map.map Pair.row),.own 1 v.door.flows.length,.own 3 v.nets.length],.arr 181 8 (v.door.flows.map Flw.row),.arr 47 10 (v.convs.map Conv.row),.arr 70 7 (v.nets.map Pk.row)] [(3,200003)] (by simp only[go_sem,resL_0]) ⟨rfl,v,he.symm,rfl⟩ ?_ (by simp[argH,getN]) (by simp only[go_sem])
  simp only[go_sem]
def ic142:IC:=sR [oP 3 (.box 41 (.t 0)),oP 4 (.box 70 (.t 1)),oP 6 (.alloc 41 [.nils,.nils,.nils,.nils])] (.seq (sR [oP 7 (.mv (.c i0))] (.block 0 (.loop (.seq (sR [mV 8 2,mV 9 8,⟨some 10,some (9,true),.mv (.t 7)⟩,⟨some 11,some (9,true),.bin .lss (.t 10) (.c (.int .i64 4))⟩,oP 12 (.pick (.t 9) (.t 11) (.c (.bool false)))] (.cond (.t 12) .skip (.exit 0))) (.seq (.block 1 (.reg [lA 16 4 3,lA 17 7 4,oP 18 (.call 145 [.t 16,.t 17]),mV 15 18,eX 19 15 0,eX 20 15 1,eX 21 15 2,nP (.sto 4 (.t 3) (.t 19)),nP (.sto 7 (.t 4) (.t 20)),mV 2 21])) (.reg [mV 13 7,oP 14 (.bin .add (.t 13) (.c (.int .i64 1))),mV 7 14])))))) (sR [lA 22 4 3,nP (.sto 4 (.t 6) (.t 22))] .ret))
theorem dg142:Dg Tryz.prog 142 Tryz.f142 ic142 [(.cell 6 4 true)]:=⟨Tryz.func142,by kernel_rfl,by kernel_rfl⟩
theorem x142 {X:List (E×E)} (w:M.World) (p:Pk) (ok:Bool) (hw:WX X w) (hp:ok=true→NetX X w.convs p):FnP Tryz.prog G 142 0 [.arr 47 10 (w.convs.map Conv.row),.arr 88 3 (w.door.map.map Pair.row),.arr 181 8 (w.door.flows.map Flw.row),.arr 70 7 (w.nets.map Pk.row)] [.agg [.own 0 w.convs.length,.own 1 w.door.map.length,.own 2 w.door.flows.length,.own 3 w.nets.length],.agg [.int .i64 p.kind,.int .i64 p.frm.a,.int .i64 p.frm.p,.int .i64 p.to.a,.int .i64 p.to.p,.int .i64 p.at_,.str p.text],.bool ok] (worldA (through 4 w (bif ok then some p else none))):=by
 refine mP dg142 Tryz.ntmps142 ⟨_,_,rfl,rfl⟩ ?_
 simp only[ic142,go_sem]
 with_reducible repeat' (first|refine br ?_ ?_<;>intro h e<;>(try simp only[e,go_sem])<;>clear e|rw[i64w (by omega)]|refine sd ?_<;>try simp only[go_sem]|fail)
 refine loopN (fun a:Nat×M.World×Pk×Bool=>⟨getL [(2,.bool a.2.2.2),(3,.pv 1003 0),(4,.pv 1004 0),(6,.pv 1006 0),(7,.int .i64 (a.1:Int))],getH [(1003,.var 41 [.own 0 a.2.1.convs.length,.own 1 a.2.1.door.map.length,.own 2 a.2.1.door.flows.length,.own 3 a.2.1.nets.length]),(1004,.var 70 (Pk.row a.2.2.1)),(1006,.var 41 [.nils,.nils,.nils,.nils]),(0,.arr 47 10 (a.2.1.convs.map Conv.row)),(1,.arr 88 3 (a.2.1.door.map.map Pair.row)),(2,.arr 181 8 (a.2.1.door.flows.map Flw.row)),(3,.arr 70 7 (a.2.1.nets.map Pk.row))]⟩)
  (fun a=>4 - a.1) (fun a=>a.1≤4∧WX X a.2.1∧(a.2.2.2=true→NetX X a.2.1.convs a.2.2.1)∧through 4 w (bif ok then some p else none)=through (4 - a.1) a.2.1 (bif a.2.2.2 then some a.2.2.1 else none)) (0,w,p,ok) (leQ []) ⟨Nat.zero_le _,hw,hp,rfl⟩ ?_
 intro⟨n,v,q,b⟩ ⟨hn,hv,hq,he⟩
 simp only at hn hv hq he
 simp only[go_sem]
 cases b
 ·simp only[go_sem]
  rw[cond_false,through_none] at he
  rw[he]
  with_reducible repeat' (first|refine br ?_ ?_<;>intro h e<;>(try simp only[e,go_sem])<;>clear e|rw[i64w (by omega)]|refine sd ?_<;>try simp only[go_sem]|fail)
  exact worldRet (d:=6) (c:=1006) 0 1 2 3 (by simp only[go_sem]) (by simp only[go_sem]) (by simp only[go_sem]) (by simp only[go_sem]) (by simp only[go_sem]) (by simp only[go_sem]) (by decide)
 by_cases h:(n:Int)<4
 ·have hq:=hq rfl
  obtain⟨k1,k2⟩:=carry_X hv hq
  have e4:4 - n=(4 - (n+1))+1:=by omega
  rw[cond_true,e4] at he
  simp only[through] at he
  simp only[eq_true h,go_sem]
  with_reducible repeat' (first|refine br ?_ ?_<;>intro h e<;>(try simp only[e,go_sem])<;>clear e|rw[i64w (by omega)]|refine sd ?_<;>try simp only[go_sem]|fail)
  refine callU (x145 v q hv hq.pk) [0,1,2,3] [] 18 4 (by simp only[go_sem];first|done|simp) (by simp only[go_sem];first|done|simp) (by simp) (by simp) (by rintro _ _ ⟨rfl,rfl⟩;simp) (by intro i hi;rcases(show i=0∨i=1∨i=2∨i=3 by omega) with rfl|rfl|rfl|rfl<;>simp only[go_sem]) ?_
  rintro _ _ ⟨rfl,rfl⟩
  generalize carry v q=x at *
  obtain⟨v',o⟩:=x
  simp only at k1 k2 he
  simp only[go_sem]
  with_reducible repeat' (first|rw[i64w (by omega)];try simp only[go_sem]|refine br ?_ ?_<;>intro h e<;>(try simp only[e,go_sem])<;>clear e|refine sd ?_<;>try simp only[go_sem]|fail)
  exact⟨(n+1,v',o.getD .zero,o.isSome),by simp only;omega,⟨by simp only;omega,k1,fun hb=>k2 _ (by cases o with|none=>cases hb|some y=>rfl),by simp only;rw[opt_b];exact he⟩,(leQ [(0,101800),(1,101801),(2,101802),(3,101803)])⟩
 ·simp only[eq_false h,go_sem]
  have e0:4 - n=0:=by omega
  rw[e0,cond_true,show through 0 v (some q)=v from rfl] at he
  rw[he]
  with_reducible repeat' (first|refine br ?_ ?_<;>intro h e<;>(try simp only[e,go_sem])<;>clear e|rw[i64w (by omega)]|refine sd ?_<;>try simp only[go_sem]|fail)
  exact worldRet (d:=6) (c:=1006) 0 1 2 3 (by simp only[go_sem]) (by simp only[go_sem]) (by simp only[go_sem]) (by simp only[go_sem]) (by simp only[go_sem]) (by simp only[go_sem]) (by decide)
theorem sayW_e (w:M.World) {i:Nat} {c:Conv} (h:w.convs[i]?=some c):sayW w true i c.upAck 24=say c true 0 c.upAck 24∧sayW w false i c.downAck 24=say c false (portOf w.door.map c.ins) c.downAck 24:=by
 have hl:=(List.getElem?_eq_some_iff.1 h).1
 have hwi:within (i:Int) 0 ((w.convs.length:Int) - 1)=true:=M.within_iff.2 (by omega)
 unfold sayW
 simp only[hwi,Int.toNat_natCast,h]
 simp
def ic104:IC:=sR [oP 1 (.box 41 (.t 0)),oP 2 (.alloc 41 [.nils,.nils,.nils,.nils])] (sR [fD 10 3 1,lD 11 1 10,mV 3 11] (sR [oP 12 (.bsl 70 7 []),fD 13 3 1,nP (.sto 1 (.t 13) (.t 12))] (.seq (sR [oP 4 (.mv (.c i0))] (.block 0 (.loop (.seq (sR [mV 14 4,mV 15 3,oP 16 (.len (.t 15)),bN 17 .lss 14 16] (.cond (.t 17) .skip (.exit 0))) (.seq (.block 1 (.drw [0,0,0,6,14,31,63] [(0,lA 20 4 1),(1,mV 21 3),(2,mV 22 4),(3,oP 23 (.iad 7 (.t 21) (.t 22))),(4,lA 24 7 23),(5,oP 25 (.call 142 [.t 20,.t 24,.c (.bool true)])),(6,nP (.sto 4 (.t 1) (.t 25)))])) (.reg [mV 18 4,oP 19 (.bin .add (.t 18) (.c (.int .i64 1))),mV 4 19])))))) (.seq (sR [oP 5 (.mv (.c i0))] (.block 2 (.loop (.seq (sR [mV 26 5,fD 27 0 1,lD 28 1 27,oP 29 (.len (.t 28)),bN 30 .lss 26 29] (.cond (.t 30) .skip (.exit 2))) (.seq (.block 3 (.seq (.drw [0,0,0,4,0,28,60,124,254,511,1023,2047,2047,0,12287,32767] [(0,lA 34 4 1),(1,mV 35 5),(2,fD 36 0 1),(3,lD 37 1 36),(4,mV 38 5),(5,oP 39 (.iad 10 (.t 37) (.t 38))),(6,fD 40 6 39),(7,lD 41 1 40),(8,oP 42 (.build [i0,i0,i0,i0,i0,i0,i0,i0,i0,i0,s0] [(0,(1,.c (.int .i64 1))),(1,(1,.t 35)),(2,(1,.t 41)),(3,(1,.c (.int .i64 24)))])),(9,oP 43 (.call 105 [.t 34,.t 42])),(10,mV 33 43),(11,eX 44 33 0),(12,eX 45 33 1),(13,oP 6 (.alloc 70 [i0,i0,i0,i0,i0,i0,s0])),(14,nP (.sto 7 (.t 6) (.t 44))),(15,mV 7 45)]) (sR [lA 46 4 1,lA 47 7 6,mV 48 7,oP 49 (.call 142 [.t 46,.t 47,.t 48]),nP (.sto 4 (.t 1) (.t 49))] (.seq (.drw [0,0,0,4,0,28,60,124,254,511,1023,2047,2047,0,12287,32767] [(0,lA 51 4 1),(1,mV 52 5),(2,fD 53 0 1),(3,lD 54 1 53),(4,mV 55 5),(5,oP 56 (.iad 10 (.t 54) (.t 55))),(6,fD 57 7 56),(7,lD 58 1 57),(8,oP 59 (.build [i0,i0,i0,i0,i0,i0,i0,i0,i0,i0,s0] [(0,(1,.c (.int .i64 2))),(1,(1,.t 52)),(2,(1,.t 58)),(3,(1,.c (.int .i64 24)))])),(9,oP 60 (.call 105 [.t 51,.t 59])),(10,mV 50 60),(11,eX 61 50 0),(12,eX 62 50 1),(13,oP 8 (.alloc 70 [i0,i0,i0,i0,i0,i0,s0])),(14,nP (.sto 7 (.t 8) (.t 61))),(15,mV 9 62)]) (.reg [lA 63 4 1,lA 64 7 8,mV 65 9,oP 66 (.call 142 [.t 63,.t 64,.t 65]),nP (.sto 4 (.t 1) (.t 66))]))))) (.reg [mV 31 5,oP 32 (.bin .add (.t 31) (.c (.int .i64 1))),mV 5 32])))))) (sR [lA 67 4 1,nP (.sto 4 (.t 2) (.t 67))] .ret)))))
theorem dg104:Dg Tryz.prog 104 Tryz.f104 ic104 [(.cell 2 4 true)]:=⟨Tryz.func104,by kernel_rfl,by kernel_rfl⟩
set_option maxHeartbeats 1000000 in
theorem x104 {X:List (E×E)} (w:M.World) (hw:WX X w):FnP Tryz.prog G 104 0 [.arr 47 10 (w.convs.map Conv.row),.arr 88 3 (w.door.map.map Pair.row),.arr 181 8 (w.door.flows.map Flw.row),.arr 70 7 (w.nets.map Pk.row)] [.agg [.own 0 w.convs.length,.own 1 w.door.map.length,.own 2 w.door.flows.length,.own 3 w.nets.length]] (worldA (M.round w)):=by
 refine mP dg104 Tryz.ntmps104 ⟨_,_,rfl,rfl⟩ ?_
 have hnl:=hw.nl
 have hcl:=hw.cl
 simp only[ic104,go_sem]
 with_reducible repeat' (first|refine br ?_ ?_<;>intro h e<;>(try simp only[e,go_sem])<;>clear e|rw[i64w (by omega)]|refine sd ?_<;>try simp only[go_sem]|fail)
 refine loopN (fun a:Nat×M.World=>⟨getL [(1,.pv 1001 0),(2,.pv 1002 0),(3,.own 3 w.nets.length),(4,.int .i64 (a.1:Int))],getH [(1001,.var 41 [.own 0 a.2.convs.length,.own 1 a.2.door.map.length,.own 2 a.2.door.flows.length,.own 1012 a.2.nets.length]),(1002,.var 41 [.nils,.nils,.nils,.nils]),(0,.arr 47 10 (a.2.convs.map Conv.row)),(1,.arr 88 3 (a.2.door.map.map Pair.row)),(2,.arr 181 8 (a.2.door.flows.map Flw.row)),(1012,.arr 70 7 (a.2.nets.map Pk.row)),(3,.arr 70 7 (w.nets.map Pk.row))]⟩)
  (fun a=>w.nets.length - a.1) (fun a=>a.1≤w.nets.length∧WX X a.2∧Ext w a.2∧w.nets.foldl (fun w p=>through 4 w (some p)) { w with nets:=[] }=(w.nets.drop a.1).foldl (fun w p=>through 4 w (some p)) a.2) (0,{ w with nets:=[] }) (leQ []) ⟨Nat.zero_le _,hw.empty,.same rfl rfl,by simp⟩ ?_
 intro⟨k,v⟩ ⟨hk,hv,hx,he⟩
 simp only at hk hv hx he
 simp only[go_sem]
 by_cases h:(k:Int)<w.nets.length
 ·have hil:k<w.nets.length:=by omega
  have hg:w.nets.getD k default=w.nets[k]:=by simp[List.getD,hil]
  rw[List.drop_eq_getElem_cons hil,List.foldl_cons] at he
  have hnp:=(hw.net _ (List.getElem_mem hil)).ext hx
  generalize w.nets[k]=p at *
  simp only[eq_true h,go_sem]
  with_reducible repeat' (first|refine br ?_ ?_<;>intro h e<;>(try simp only[e,go_sem,getD_mp hil,hg])<;>clear e|rw[i64w (by omega)]|refine sd ?_<;>try simp only[go_sem,getD_mp hil,hg]|fail)
  refine callU (x142 v p true hv (fun _=>hnp)) [0,1,2,1012] [] 25 4 (by simp only[go_sem];first|done|simp) (by simp only[go_sem];first|done|simp) (by simp) (by simp) (by rintro _ _ ⟨rfl,rfl⟩;simp) (by intro i hi;rcases(show i=0∨i=1∨i=2∨i=3 by omega) with rfl|rfl|rfl|rfl<;>simp only[go_sem]) ?_
  rintro _ _ ⟨rfl,rfl⟩
  rw[cond_true]
  simp only[go_sem]
  have hv':WX X (through 4 v (some p)):=hv.through 4 (fun q hq=>by cases hq;exact hnp)
  have hx':=hx.trans (through_ext 4 v (some p))
  generalize through 4 v (some p)=v' at *
  with_reducible repeat' (first|rw[i64w (by omega)];try simp only[go_sem]|refine br ?_ ?_<;>intro h e<;>(try simp only[e,go_sem])<;>clear e|refine sd ?_<;>try simp only[go_sem]|fail)
  exact⟨(k+1,v'),by simp only;omega,⟨by simp only;omega,hv',hx',he⟩,(leQ [(0,102500),(1,102501),(2,102502),(1012,102503)])⟩
 simp only[eq_false h,go_sem]
 obtain rfl:k=w.nets.length:=by omega
 rw[List.drop_length,List.foldl_nil] at he
 have hrd:M.round w=(List.range v.convs.length).foldl sayRound v:=by rw[←he];rfl
 clear he hx h
 with_reducible repeat' (first|refine br ?_ ?_<;>intro h e<;>(try simp only[e,go_sem])<;>clear e|rw[i64w (by omega)]|refine sd ?_<;>try simp only[go_sem]|fail)
 have hvl:=hv.cl
 generalize hn:v.convs.length=n at *
 refine loopN (fun a:Nat×M.World=>⟨getL [(1,.pv 1001 0),(2,.pv 1002 0),(5,.int .i64 (a.1:Int))],getH [(1001,.var 41 [.own 0 a.2.convs.length,.own 1 a.2.door.map.length,.own 2 a.2.door.flows.length,.own 1012 a.2.nets.length]),(1002,.var 41 [.nils,.nils,.nils,.nils]),(0,.arr 47 10 (a.2.convs.map Conv.row)),(1,.arr 88 3 (a.2.door.map.map Pair.row)),(2,.arr 181 8 (a.2.door.flows.map Flw.row)),(1012,.arr 70 7 (a.2.nets.map Pk.row))]⟩)
  (fun a=>n - a.1) (fun a=>a.1≤n∧WX X a.2∧a.2.convs.length=n∧M.round w=((List.range n).drop a.1).foldl sayRound a.2) (0,v) (by rw[←hn];exact(leQ [])) ⟨Nat.zero_le _,hv,hn,by simpa using hrd⟩ ?_
 clear hrd hv hn v
 intro⟨k,v⟩ ⟨hk,hv,hn,he⟩
 simp only at hk hv hn he
 simp only[go_sem]
 by_cases h:(k:Int)<v.convs.length
 ·have hil:k<v.convs.length:=by omega
  have hg:v.convs.getD k default=v.convs[k]:=by simp[List.getD,hil]
  have hg2:=zE hil
  have hB:∀(u:M.World),WX X u→∀c∈u.convs,c.up.length≤2000000∧c.down.length≤2000000:=fun u hu c hc=>by
   have hb:=convOk_B (hu.cv c hc)
   have h1:=hb.up
   have h2:=hb.down
   omega
  have hM:∀(u:M.World),WX X u→u.door.map.length≤2000000:=fun u hu=>by have:=(mapOk_ports (doorOk_iff.1 hu.door).1).2;omega
  have hcm:=List.getElem_mem hil
  rw[range_at (by omega),List.foldl_cons] at he
  generalize v.convs[k]=c at *
  have fs:=c105 v ⟨1,k,c.upAck,24,.zero⟩ (hM v hv) (by omega) (hB v hv)
  have hsn:∀p,say c true 0 c.upAck 24=some p→NetX X v.convs p:=fun p hp=>(say_net hcm (hv.cv c hcm) hp).x
  rw[show decide ((1:Int)=1)=true from rfl,(sayW_e v hg2).1] at fs
  generalize ho:say c true 0 c.upAck 24=o at *
  obtain⟨pfs,hpfs⟩:∃pfs,pfs=o.getD .zero:=⟨_,rfl⟩
  rw[←hpfs] at fs
  simp only[Pk.zero,E.zero] at fs
  simp only[eq_true h,go_sem]
  with_reducible repeat' (first|refine br ?_ ?_<;>intro h e<;>(try simp only[e,go_sem,getD_mp hil,hg])<;>clear e|rw[i64w (by omega)]|refine sd ?_<;>try simp only[go_sem,getD_mp hil,hg]|fail)
  refine callF fs [0,1,2,1012] false (by simp only[go_sem];first|done|simp[E.row,Pc.row,Pair.row,Part.row,Flw.row,Pk.row,Conv.row]) (by simp only[List.mem_cons,List.not_mem_nil,or_false];rintro c (rfl|rfl|rfl|rfl)<;>simp only[go_sem]) rfl (.inr rfl) ?_
  simp only[go_sem]
  with_reducible repeat' (first|refine br ?_ ?_<;>intro h e<;>(try simp only[e,go_sem])<;>clear e|rw[i64w (by omega)]|refine sd ?_<;>try simp only[go_sem]|fail)
  refine callU (x142 v pfs o.isSome hv (fun hb=>hsn _ (by rw[hpfs];cases o with|none=>cases hb|some y=>rfl))) [0,1,2,1012] [] 49 4 (by simp only[go_sem];first|done|simp) (by simp only[go_sem];first|done|simp) (by simp) (by simp) (by rintro _ _ ⟨rfl,rfl⟩;simp) (by intro i hi;rcases(show i=0∨i=1∨i=2∨i=3 by omega) with rfl|rfl|rfl|rfl<;>simp only[go_sem]) ?_
  rw[hpfs,opt_b]
  rintro _ _ ⟨rfl,rfl⟩
  simp only[go_sem]
  obtain⟨v1,hv1⟩:∃v1,v1=through 4 v o:=⟨_,rfl⟩
  rw[←hv1]
  have hw1:WX X v1:=by rw[hv1];exact hv.through 4 hsn
  have hx1:Ext v v1:=by rw[hv1];exact through_ext 4 _ _
  have hil1:k<v1.convs.length:=by rw[hx1.len];exact hil
  have hg1:v1.convs.getD k default=v1.convs[k]:=by simp[List.getD,hil1]
  have hg3:=zE hil1
  have hcm1:=List.getElem_mem hil1
  have hcl1:=hw1.cl
  generalize v1.convs[k]=c1 at *
  have fs1:=c105 v1 ⟨2,k,c1.downAck,24,.zero⟩ (hM v1 hw1) (by omega) (hB v1 hw1)
  have hsn1:∀p,say c1 false (portOf v1.door.map c1.ins) c1.downAck 24=some p→NetX X v1.convs p:=fun p hp=>(say_net hcm1 (hw1.cv c1 hcm1) hp).x
  rw[show decide ((2:Int)=1)=false from rfl,(sayW_e v1 hg3).2] at fs1
  generalize ho1:say c1 false (portOf v1.door.map c1.ins) c1.downAck 24=o1 at *
  have hse:=sayRound_e hg2 ho hv1 hg3 ho1
  obtain⟨pfs1,hpfs1⟩:∃pfs1,pfs1=o1.getD .zero:=⟨_,rfl⟩
  rw[←hpfs1] at fs1
  simp only[Pk.zero,E.zero] at fs1
  with_reducible repeat' (first|refine br ?_ ?_<;>intro h e<;>(try simp only[e,go_sem,getD_mp hil1,hg1])<;>clear e|rw[i64w (by omega)]|refine sd ?_<;>try simp only[go_sem,getD_mp hil1,hg1]|fail)
  refine callF fs1 [104900,104901,104902,104903] false (by simp only[go_sem];first|done|simp[E.row,Pc.row,Pair.row,Part.row,Flw.row,Pk.row,Conv.row]) (by simp only[List.mem_cons,List.not_mem_nil,or_false];rintro c (rfl|rfl|rfl|rfl)<;>simp only[go_sem]) rfl (.inr rfl) ?_
  simp only[go_sem]
  with_reducible repeat' (first|refine br ?_ ?_<;>intro h e<;>(try simp only[e,go_sem])<;>clear e|rw[i64w (by omega)]|refine sd ?_<;>try simp only[go_sem]|fail)
  refine callU (x142 v1 pfs1 o1.isSome hw1 (fun hb=>hsn1 _ (by rw[hpfs1];cases o1 with|none=>cases hb|some y=>rfl))) [104900,104901,104902,104903] [] 66 4 (by simp only[go_sem];first|done|simp) (by simp only[go_sem];first|done|simp) (by simp) (by simp) (by rintro _ _ ⟨rfl,rfl⟩;simp) (by intro i hi;rcases(show i=0∨i=1∨i=2∨i=3 by omega) with rfl|rfl|rfl|rfl<;>simp only[go_sem]) ?_
  rw[hpfs1,opt_b]
  rintro _ _ ⟨rfl,rfl⟩
  simp only[go_sem]
  rw[hse] at he
  have hw2:WX X (through 4 v1 o1):=hw1.through 4 hsn1
  have hl2:=(through_ext 4 v1 o1).len
  generalize through 4 v1 o1=v2 at *
  with_reducible repeat' (first|rw[i64w (by omega)];try simp only[go_sem]|refine br ?_ ?_<;>intro h e<;>(try simp only[e,go_sem])<;>clear e|refine sd ?_<;>try simp only[go_sem]|fail)
  exact⟨(k+1,v2),by simp only;omega,⟨by simp only;omega,hw2,by simp only;rw[hl2,hx1.len,hn],he⟩,(leQ [(0,106600),(1,106601),(2,106602),(1012,106603)])⟩
 ·simp only[eq_false h,go_sem]
  obtain rfl:k=n:=by omega
  rw[show(List.range k).drop k=[] by simp,List.foldl_nil] at he
  rw[he]
  with_reducible repeat' (first|refine br ?_ ?_<;>intro h e<;>(try simp only[e,go_sem])<;>clear e|rw[i64w (by omega)]|refine sd ?_<;>try simp only[go_sem]|fail)
  exact worldRet (d:=2) (c:=1002) 0 1 2 1012 (by simp only[go_sem]) (by simp only[go_sem]) (by simp only[go_sem]) (by simp only[go_sem]) (by simp only[go_sem]) (by simp only[go_sem]) (by decide)
def ic58:IC:=sR [oP 2 (.box 41 (.t 0)),oP 4 (.alloc 41 [.nils,.nils,.nils,.nils])] (.seq (sR [lA 7 4 2,oP 8 (.call 102 [.t 7]),oP 9 (.un .not (.t 8)),mV 10 9,⟨some 11,some (10,false),.mv (.t 1)⟩,⟨some 12,some (10,false),.call 100 [.t 11,.c i0,.c (.int .i64 6)]⟩,⟨some 13,some (10,false),.un .not (.t 12)⟩,oP 14 (.pick (.t 10) (.c (.bool true)) (.t 13))] (.cond (.t 14) (sR [oP 15 (.build [.nils,.nils,.nils,.nils] []),nP (.sto 4 (.t 4) (.t 15))] .ret) .skip)) (sR [lA 16 4 2,oP 17 (.call 103 [.t 16]),oP 5 (.alloc 41 [.nils,.nils,.nils,.nils]),nP (.sto 4 (.t 5) (.t 17))] (.seq (sR [oP 6 (.mv (.c i0))] (.block 0 (.loop (.seq (sR [mV 18 6,mV 19 1,bN 20 .lss 18 19] (.cond (.t 20) .skip (.exit 0))) (.seq (.block 1 (.reg [lA 23 4 5,oP 24 (.call 104 [.t 23]),nP (.sto 4 (.t 5) (.t 24))])) (.reg [mV 21 6,oP 22 (.bin .add (.t 21) (.c (.int .i64 1))),mV 6 22])))))) (sR [lA 25 4 5,nP (.sto 4 (.t 4) (.t 25))] .ret))))
theorem dg58:Dg Tryz.prog 58 Tryz.f58 ic58 [(.cell 4 4 true)]:=⟨Tryz.func58,by kernel_rfl,by kernel_rfl⟩
theorem words_hd (t:B):∃h r,cutAll 32 t=h::r:=by
 cases h:cutAll 32 t with
 | nil=>exact absurd h (cutAll_ne 32 t)
 | cons a b=>exact⟨a,b,rfl⟩
theorem o58 {X:List (E×E)} (w:M.World) (hx:WX X w) (hok:worldOk w=true):FnP Tryz.prog G 58 0 [] [.agg [.sl 10 (w.convs.map Conv.row),.sl 3 (w.door.map.map Pair.row),.sl 8 (w.door.flows.map Flw.row),.sl 7 (w.nets.map Pk.row)],.int .i64 1] (worldA (M.round w)):=by
 refine mP dg58 Tryz.ntmps58 ⟨_,_,rfl,rfl⟩ ?_
 have f1:=c102 w (wx_ws hx)
 have f2:FnR Tryz.prog G 100 [.int .i64 1,.int .i64 0,.int .i64 6] (.bool true):=c100 1 0 6
 rw[hok] at f1
 simp only[ic58,go_sem]
 with_reducible repeat' (first|refine br ?_ ?_<;>intro h e<;>(try simp only[e,go_sem])<;>clear e|rw[i64w (by omega)]|refine sd ?_<;>try simp only[go_sem]|(first|refine cr (f1 ..) ?_|refine cr (f2 ..) ?_)<;>try simp only[go_sem]|fail)
 refine callO (c103 w hx) [] 17 4 (by simp only[go_sem];first|done|simp) (by simp) (by rintro _ _ ⟨rfl,rfl⟩;simp) (by intro i hi;rcases(show i=0∨i=1∨i=2∨i=3 by omega) with rfl|rfl|rfl|rfl<;>simp only[go_sem]) ?_
 rintro _ _ ⟨rfl,rfl⟩
 simp only[go_sem]
 with_reducible repeat' (first|refine br ?_ ?_<;>intro h e<;>(try simp only[e,go_sem])<;>clear e|rw[i64w (by omega)]|refine sd ?_<;>try simp only[go_sem]|fail)
 refine loopN (fun a:Nat×M.World=>⟨getL [(1,.int .i64 1),(4,.pv 1004 0),(5,.pv 1005 0),(6,.int .i64 (a.1:Int))],getH [(1004,.var 41 [.nils,.nils,.nils,.nils]),(1005,.var 41 [.own 101700 a.2.convs.length,.own 101701 a.2.door.map.length,.own 101702 a.2.door.flows.length,.own 101703 a.2.nets.length]),(101700,.arr 47 10 (a.2.convs.map Conv.row)),(101701,.arr 88 3 (a.2.door.map.map Pair.row)),(101702,.arr 181 8 (a.2.door.flows.map Flw.row)),(101703,.arr 70 7 (a.2.nets.map Pk.row))]⟩)
  (fun a=>1 - a.1) (fun a=>a.1≤1∧WX X a.2∧rounds 1 w=rounds (1 - a.1) a.2) (0,w) (leQ []) ⟨Nat.zero_le _,hx,rfl⟩ ?_
 intro⟨k,v⟩ ⟨hk,hv,he⟩
 simp only at hk hv he
 simp only[go_sem]
 by_cases h:(k:Int)<1
 ·rw[show 1 - k=(1 - (k+1))+1 by omega] at he
  simp only[eq_true h,go_sem]
  with_reducible repeat' (first|refine br ?_ ?_<;>intro h e<;>(try simp only[e,go_sem])<;>clear e|rw[i64w (by omega)]|refine sd ?_<;>try simp only[go_sem]|fail)
  refine callU (x104 v hv) [101700,101701,101702,101703] [] 24 4 (by simp only[go_sem];first|done|simp) (by simp only[go_sem];first|done|simp) (by simp) (by simp) (by rintro _ _ ⟨rfl,rfl⟩;simp) (by intro i hi;rcases(show i=0∨i=1∨i=2∨i=3 by omega) with rfl|rfl|rfl|rfl<;>simp only[go_sem]) ?_
  rintro _ _ ⟨rfl,rfl⟩
  simp only[go_sem]
  have hv2:=hv.round
  rw[show rounds (1 - (k+1)+1) v=rounds (1 - (k+1)) (M.round v) from rfl] at he
  generalize M.round v=v2 at *
  with_reducible repeat' (first|rw[i64w (by omega)];try simp only[go_sem]|refine br ?_ ?_<;>intro h e<;>(try simp only[e,go_sem])<;>clear e|refine sd ?_<;>try simp only[go_sem]|fail)
  exact⟨(k+1,v2),by simp only;omega,⟨by simp only;omega,hv2,he⟩,(leQ [(101700,102400),(101701,102401),(101702,102402),(101703,102403)])⟩
 ·simp only[eq_false h,go_sem]
  obtain rfl:k=1:=by omega
  rw[show rounds 1 w=M.round w from rfl,show rounds (1 - 1) v=v from rfl] at he
  rw[he]
  with_reducible repeat' (first|refine br ?_ ?_<;>intro h e<;>(try simp only[e,go_sem])<;>clear e|rw[i64w (by omega)]|refine sd ?_<;>try simp only[go_sem]|fail)
  exact worldRet (d:=4) (c:=1004) 101700 101701 101702 101703 (by simp only[go_sem]) (by simp only[go_sem]) (by simp only[go_sem]) (by simp only[go_sem]) (by simp only[go_sem]) (by simp only[go_sem]) (by decide)
theorem endB {c:Conv} (h:convOk c=true):(0≤c.upAck∧c.upAck<100)∧(0≤c.downAck∧c.downAck<100)∧c.upGot.length≤200∧c.downGot.length≤200:=by
 have hb:=convOk_B h
 have h1:=hb.up;have h2:=hb.down;have h3:=hb.upGot;have h4:=hb.downGot;have h5:=hb.upAck;have h6:=hb.downAck
 omega
def ic32:IC:=sR [oP 1 (.box 41 (.t 0)),oP 2 (.mv (.c s0))] (sR [fD 4 0 1,lD 5 1 4,oP 6 (.iad 10 (.t 5) (.c i0)),lA 7 10 6,oP 3 (.alloc 47 [i0,i0,i0,i0,s0,s0,i0,i0,s0,s0]),nP (.sto 10 (.t 3) (.t 7))] (.seq (.drw [0,1,3,7,15,0,32,127,255,0,512,1543,4095,8191,0,16384,65535,131071,262143] [(0,fD 8 6 3),(1,lD 9 1 8),(2,oP 10 (.call 34 [.t 9])),(3,oP 11 (.bin .add (.c (.str [117,112,32])) (.t 10))),(4,oP 12 (.bin .add (.t 11) (.c (.str [32])))),(5,fD 13 8 3),(6,lD 14 1 13),(7,bN 15 .add 12 14),(8,oP 16 (.bin .add (.t 15) (.c (.str [10,100,111,119,110,32])))),(9,fD 17 7 3),(10,lD 18 1 17),(11,oP 19 (.call 34 [.t 18])),(12,bN 20 .add 16 19),(13,oP 21 (.bin .add (.t 20) (.c (.str [32])))),(14,fD 22 9 3),(15,lD 23 1 22),(16,bN 24 .add 21 23),(17,oP 25 (.bin .add (.t 24) (.c (.str [10])))),(18,mV 2 25)]) .ret))
theorem dg32:Dg Tryz.prog 32 Tryz.f32 ic32 [(.t 2)]:=⟨Tryz.func32,by kernel_rfl,by kernel_rfl⟩
theorem c32 (w:M.World) (c:Conv) (hc:w.convs=[c]) (hok:convOk c=true):FnR Tryz.prog G 32 [.agg [.sl 10 (w.convs.map Conv.row),.sl 3 (w.door.map.map Pair.row),.sl 8 (w.door.flows.map Flw.row),.sl 7 (w.nets.map Pk.row)]] (.str (linesEnd w)):=by
 refine mF dg32 Tryz.ntmps32 ?_
 obtain⟨h1,h2,h3,h4⟩:=endB hok
 have f1:=c34 c.upAck h1
 have f2:=c34 c.downAck h2
 have l1:=dec_le2 c.upAck
 have l2:=dec_le2 c.downAck
 have e:linesEnd w=[117,112,32]++(dec c.upAck++(32::(c.upGot++(10::([100,111,119,110,32]++(dec c.downAck++(32::(c.downGot++[10])))))))):=by simp only[linesEnd,hc]
 rw[e,hc]
 generalize dec c.upAck=x at *
 generalize dec c.downAck=y at *
 simp only[ic32,go_sem,iadG_e,zC,zN]
 with_reducible repeat' (first|refine br ?_ ?_<;>intro h e<;>(try simp only[e,go_sem,iadG_e,zA,zC,zN,zZ,zP,zU])<;>clear e|rw[i64w (by omega)]|refine sd ?_<;>try simp only[go_sem,iadG_e,zA,zC,zN,zZ,zP,zU]|(first|refine cr (f1 ..) ?_|refine cr (f2 ..) ?_)<;>try simp only[go_sem,iadG_e,zA,zC,zN,zZ,zP,zU]|fail)
 all_goals first|done|(simp;done)|skip
theorem joinL_step {α:Type} (l:List α) (f:α→B) (k:Nat) (h:k<l.length):joinL ((l.take (k+1)).map f)=joinL ((l.take k).map f)++(f l[k]++[10]):=by
 rw[List.take_add_one,zE h,List.map_append,joinL_app]
 simp only[Option.toList_some,List.map_cons,List.map_nil]
 rw[show joinL [f l[k]]=f l[k]++[10] by simp[joinL]]
def lineA (x:M.World×B) (r:V) (out:List Hs):Prop:=r=.tup [.agg [.own 0 x.1.convs.length,.own 1 x.1.door.map.length,.own 2 x.1.door.flows.length,.own 3 x.1.nets.length],.str x.2]∧out=[.arr 47 10 (x.1.convs.map Conv.row),.arr 88 3 (x.1.door.map.map Pair.row),.arr 181 8 (x.1.door.flows.map Flw.row),.arr 70 7 (x.1.nets.map Pk.row)]
theorem lineRet {x:M.World×B} {w:M.World} {s:B} {l:List (Nat×V)} {mm:List (Nat×Hs)} (n0 n1 n2 n3:Nat) (hx:x=(w,s)) (h4:getL l 4=.pv 1004 0) (h5:getL l 5=.str s)
 (m4:getH mm 1004=.var 41 [.own n0 w.convs.length,.own n1 w.door.map.length,.own n2 w.door.flows.length,.own n3 w.nets.length])
 (m0:getH mm n0=.arr 47 10 (w.convs.map Conv.row)) (m1:getH mm n1=.arr 88 3 (w.door.map.map Pair.row)) (m2:getH mm n2=.arr 181 8 (w.door.flows.map Flw.row)) (m3:getH mm n3=.arr 70 7 (w.nets.map Pk.row))
 (hne:[n0,n1,n2,n3].Nodup):retQ [.cell 4 4 true,.t 5] 0 (lineA x) .ret ⟨getL l,getH mm⟩:=by
 subst hx
 refine retN (.tup [.agg [.own 0 w.convs.length,.own 1 w.door.map.length,.own 2 w.door.flows.length,.own 3 w.nets.length],.str s]) [.arr 47 10 (w.convs.map Conv.row),.arr 88 3 (w.door.map.map Pair.row),.arr 181 8 (w.door.flows.map Flw.row),.arr 70 7 (w.nets.map Pk.row)] [(0,n0),(1,n1),(2,n2),(3,n3)] ?_ ⟨rfl,rfl⟩ ?_ (by simpa[argH,getN] using hne) (by simp only[go_sem])
 ·simp only[go_sem,h4,h5,m4]
 ·simp only[go_sem,m0,m1,m2,m3]
theorem wDo_none (w:M.World):wDo w ⟨6,0,0,0,.zero⟩=w:=by
 have:stranger w .zero=false:=by
  have:pkOk .zero=false:=by decide
  simp[stranger,this]
 simp[wDo,this]
theorem lineDo_h (w:M.World) (line:B) {h:B} {r:List B} (hc:cutAll 32 line=h::r):lineDo w line =
 (if h=[117,112] then(wDo w ⟨1,0,wordAt (h::r) 1,wordAt (h::r) 2,.zero⟩,[])
 else if h=[100,111,119,110] then(wDo w ⟨2,0,wordAt (h::r) 1,wordAt (h::r) 2,.zero⟩,[])
 else if h=[98,114,105,110,103] then(wDo w ⟨3,wordAt (h::r) 1,0,0,.zero⟩,[])
 else if h=[108,111,115,101] then(wDo w ⟨4,wordAt (h::r) 1,0,0,.zero⟩,[])
 else if h=[116,119,105,99,101] then(wDo w ⟨5,wordAt (h::r) 1,0,0,.zero⟩,[])
 else if h=[102,111,114,103,101] then(wDo w ⟨6,0,0,0,(pktRead (line.drop 6)).getD .zero⟩,[])
 else if h=[99,97,108,109] then(M.round w,[])
 else if h=[109,97,112] then(w,joinL (w.door.map.map fun p=>dec p.port++(32::p.ins.text))++(decN w.door.map.length++[10]))
 else if h=[110,101,116,115] then(w,joinL (w.nets.map pktText)++(decN w.nets.length++[10]))
 else(w,[119,104,97,116,10])):=by
 unfold lineDo
 simp only[hc,List.headD_cons]
 cases hp:pktRead (line.drop 6) with
 | some p=>rfl
 | none=>simp only[Option.getD_none,wDo_none]
theorem pktRead_text {t:B} {p:Pk} (h:pktRead t=some p) (hl:t.length≤100000):((pktRead t).getD .zero).text.length≤100:=by
 obtain⟨e,hl2⟩:=pktRead_is h
 rw[h,Option.getD_some]
 by_cases ht:t=[]
 ·subst ht
  simp[pktRead,cutAll] at h
 ·have:=(pkOk_P (pktText_ne e ht)).len
  omega
theorem pktRead_tl (t:B) (hl:t.length≤100000):((pktRead t).getD .zero).text.length≤100:=by
 cases h:pktRead t with
 | none=>simp[Pk.zero]
 | some p =>
   have:=pktRead_text h hl
   rwa [h] at this
def ic31:IC:=sR [oP 2 (.box 41 (.t 0)),oP 4 (.alloc 41 [.nils,.nils,.nils,.nils]),oP 5 (.mv (.c s0))] (sR [mV 14 1,oP 15 (.call 30 [.t 14,.c (.int .u8 32)]),mV 6 15] (sR [mV 16 6,oP 17 (.call 56 [.t 16,.c (.int .i64 1)]),mV 18 6,oP 19 (.call 56 [.t 18,.c (.int .i64 2)]),oP 20 (.build [i0,i0,i0,i0,i0,i0,i0,i0,i0,i0,s0] [(2,(1,.t 17)),(3,(1,.t 19))]),oP 7 (.alloc 83 [i0,i0,i0,i0,i0,i0,i0,i0,i0,i0,s0]),nP (.sto 11 (.t 7) (.t 20))] (.seq (sR [mV 21 6,oP 22 (.iad 1 (.t 21) (.c i0)),lD 23 1 22] (.block 0 (sR [oP 26 (.bin .eql (.t 23) (.c (.str [117,112]))),mV 25 26] (.cond (.t 25) (.reg [fD 27 0 7,nP (.sto 1 (.t 27) (.c (.int .i64 1)))]) (sR [oP 29 (.bin .eql (.t 23) (.c (.str [100,111,119,110]))),mV 28 29] (.cond (.t 28) (.reg [fD 30 0 7,nP (.sto 1 (.t 30) (.c (.int .i64 2)))]) (sR [oP 32 (.bin .eql (.t 23) (.c (.str [98,114,105,110,103]))),mV 31 32] (.cond (.t 31) (.reg [mV 33 6,oP 34 (.call 56 [.t 33,.c (.int .i64 1)]),oP 35 (.build [i0,i0,i0,i0,i0,i0,i0,i0,i0,i0,s0] [(0,(1,.c (.int .i64 3))),(1,(1,.t 34))]),nP (.sto 11 (.t 7) (.t 35))]) (sR [oP 37 (.bin .eql (.t 23) (.c (.str [108,111,115,101]))),mV 36 37] (.cond (.t 36) (.reg [mV 38 6,oP 39 (.call 56 [.t 38,.c (.int .i64 1)]),oP 40 (.build [i0,i0,i0,i0,i0,i0,i0,i0,i0,i0,s0] [(0,(1,.c (.int .i64 4))),(1,(1,.t 39))]),nP (.sto 11 (.t 7) (.t 40))]) (sR [oP 42 (.bin .eql (.t 23) (.c (.str [116,119,105,99,101]))),mV 41 42] (.cond (.t 41) (.reg [mV 43 6,oP 44 (.call 56 [.t 43,.c (.int .i64 1)]),oP 45 (.build [i0,i0,i0,i0,i0,i0,i0,i0,i0,i0,s0] [(0,(1,.c (.int .i64 5))),(1,(1,.t 44))]),nP (.sto 11 (.t 7) (.t 45))]) (sR [oP 47 (.bin .eql (.t 23) (.c (.str [102,111,114,103,101]))),mV 46 47] (.cond (.t 46) (sR [mV 49 1,mV 50 1,oP 51 (.lens (.t 50)),oP 52 (.mn (.t 51) (.c (.int .i64 6))),oP 53 (.sls (.t 49) (some (.t 52)) none),oP 54 (.call 57 [.t 53]),mV 48 54,eX 55 48 0,eX 56 48 1,oP 8 (.alloc 70 [i0,i0,i0,i0,i0,i0,s0]),nP (.sto 7 (.t 8) (.t 55)),mV 9 56] (.reg [lA 57 7 8,oP 58 (.build [i0,i0,i0,i0,i0,i0,i0,i0,i0,i0,s0] [(0,(1,.c (.int .i64 6))),(4,(7,.t 57))]),nP (.sto 11 (.t 7) (.t 58))])) (sR [oP 60 (.bin .eql (.t 23) (.c (.str [99,97,108,109]))),mV 59 60] (.cond (.t 59) (sR [lA 61 4 2,oP 62 (.call 58 [.t 61,.c (.int .i64 1)]),nP (.sto 4 (.t 4) (.t 62)),oP 5 (.mv (.c s0))] .ret) (sR [oP 64 (.bin .eql (.t 23) (.c (.str [109,97,112]))),mV 63 64] (.cond (.t 63) (sR [oP 10 (.mv (.c s0))] (.seq (sR [oP 11 (.mv (.c i0))] (.block 1 (.loop (.seq (sR [mV 65 11,fD 66 1 2,fD 67 0 66,lD 68 1 67,oP 69 (.len (.t 68)),bN 70 .lss 65 69] (.cond (.t 70) .skip (.exit 1))) (.seq (.block 2 (.drw [0,0,2,6,0,30,62,126,254,511,1023,0,2048,6144,0,30720,63488,129024,260606,524287,1048575,2097151] [(0,mV 73 10),(1,fD 74 1 2),(2,fD 75 0 74),(3,lD 76 1 75),(4,mV 77 11),(5,oP 78 (.iad 3 (.t 76) (.t 77))),(6,fD 79 0 78),(7,lD 80 1 79),(8,oP 81 (.call 34 [.t 80])),(9,bN 82 .add 73 81),(10,oP 83 (.bin .add (.t 82) (.c (.str [32])))),(11,fD 84 1 2),(12,fD 85 0 84),(13,lD 86 1 85),(14,mV 87 11),(15,oP 88 (.iad 3 (.t 86) (.t 87))),(16,fD 89 1 88),(17,lA 90 2 89),(18,oP 91 (.call 37 [.t 90])),(19,bN 92 .add 83 91),(20,oP 93 (.bin .add (.t 92) (.c (.str [10])))),(21,mV 10 93)])) (.reg [mV 71 11,oP 72 (.bin .add (.t 71) (.c (.int .i64 1))),mV 11 72])))))) (.seq (.drw [0,0,0,4,12,28,60,126,254,125,1023] [(0,lA 94 4 2),(1,mV 95 10),(2,fD 96 1 2),(3,fD 97 0 96),(4,lD 98 1 97),(5,oP 99 (.len (.t 98))),(6,oP 100 (.call 34 [.t 99])),(7,bN 101 .add 95 100),(8,oP 102 (.bin .add (.t 101) (.c (.str [10])))),(9,nP (.sto 4 (.t 4) (.t 94))),(10,mV 5 102)]) .ret))) (sR [oP 104 (.bin .eql (.t 23) (.c (.str [110,101,116,115]))),mV 103 104] (.cond (.t 103) (sR [oP 12 (.mv (.c s0))] (.seq (sR [oP 13 (.mv (.c i0))] (.block 3 (.loop (.seq (sR [mV 105 13,fD 106 3 2,lD 107 1 106,oP 108 (.len (.t 107)),bN 109 .lss 105 108] (.cond (.t 109) .skip (.exit 3))) (.seq (.block 4 (.reg [mV 112 12,fD 113 3 2,lD 114 1 113,mV 115 13,oP 116 (.iad 7 (.t 114) (.t 115)),lA 117 7 116,oP 118 (.call 35 [.t 117]),bN 119 .add 112 118,oP 120 (.bin .add (.t 119) (.c (.str [10]))),mV 12 120])) (.reg [mV 110 13,oP 111 (.bin .add (.t 110) (.c (.int .i64 1))),mV 13 111])))))) (.seq (.drw [0,0,0,4,12,28,62,126,61,511] [(0,lA 121 4 2),(1,mV 122 12),(2,fD 123 3 2),(3,lD 124 1 123),(4,oP 125 (.len (.t 124))),(5,oP 126 (.call 34 [.t 125])),(6,bN 127 .add 122 126),(7,oP 128 (.bin .add (.t 127) (.c (.str [10])))),(8,nP (.sto 4 (.t 4) (.t 121))),(9,mV 5 128)]) .ret))) (sR [lA 24 4 2,nP (.sto 4 (.t 4) (.t 24)),oP 5 (.mv (.c (.str [119,104,97,116,10])))] .ret))))))))))))))))))))) (sR [lA 129 4 2,lA 130 11 7,oP 131 (.call 59 [.t 129,.t 130]),nP (.sto 4 (.t 4) (.t 131)),oP 5 (.mv (.c s0))] .ret))))
theorem dg31:Dg Tryz.prog 31 Tryz.f31 ic31 [(.cell 4 4 true),(.t 5)]:=⟨Tryz.func31,by kernel_rfl,by kernel_rfl⟩
set_option maxHeartbeats 8000000 in
theorem c31 (w:M.World) (line:B) (hw:WI w) (hok:worldOk w=true) (hl:line.length≤1000):FnP Tryz.prog G 31 0 [.arr 47 10 (w.convs.map Conv.row),.arr 88 3 (w.door.map.map Pair.row),.arr 181 8 (w.door.flows.map Flw.row),.arr 70 7 (w.nets.map Pk.row)] [.agg [.own 0 w.convs.length,.own 1 w.door.map.length,.own 2 w.door.flows.length,.own 3 w.nets.length],.str line] (lineA (lineDo w line)):=by
 refine mP dg31 Tryz.ntmps31 ⟨_,_,rfl,rfl⟩ ?_
 have hnl:=hw.nl
 have hml:=(mapOk_ports (doorOk_iff.1 hw.door).1).2
 have hmk:=(doorOk_iff.1 hw.door).1
 have f1:=c30 line 32 (by omega)
 simp only[show((UInt8.toNat 32:Nat):Int)=32 from rfl] at f1
 have hln:=cutAll_len 32 line
 have hmem:=cutAll_mem 32 line
 obtain⟨hd,r,hc⟩:=words_hd line
 have hL:=lineDo_h w line hc
 rw[hc] at f1 hln hmem
 have f2:=c56 (hd::r) 1 (by omega) (fun x hx=>by have:=hmem x hx;omega)
 have f3:=c56 (hd::r) 2 (by omega) (fun x hx=>by have:=hmem x hx;omega)
 rw[hL]
 clear hL
 have hz0:0<(hd::r).length:=by simp
 have hg0:(hd::r).getD 0 default=hd:=rfl
 have hi0:((0:Int)<((hd::r).length:Int))=True:=eq_true (by simp only[zC];omega)
 generalize hws:hd::r=ws at *
 generalize hw1:wordAt ws 1=a at *
 generalize hw2:wordAt ws 2=b at *
 simp only[show(((1:Nat):Int))=1 from rfl] at f2
 simp only[show(((2:Nat):Int))=2 from rfl] at f3
 by_cases h0:hd=[117,112]
 ·rw[if_pos h0]
  simp only[ic31,go_sem]
  with_reducible repeat' (first|refine br ?_ ?_<;>intro h e<;>(try simp only[e,go_sem,eq_true h0,getD_mp hz0,hg0,Int.reduceToNat,hi0])<;>clear e|rw[i64w (by omega)]|refine sd ?_<;>try simp only[go_sem,eq_true h0,getD_mp hz0,hg0,Int.reduceToNat,hi0]|(first|refine cr (f1 ..) ?_|refine cr (f2 ..) ?_|refine cr (f3 ..) ?_)<;>try simp only[go_sem,eq_true h0,getD_mp hz0,hg0,Int.reduceToNat,hi0]|fail)
  refine callU (c59 w ⟨1,0,a,b,.zero⟩ hw (by simp[Pk.zero])) [0,1,2,3] [] 131 4 (by simp only[go_sem,Pk.zero,E.zero];first|done|simp[Pk.zero,E.zero]) (by simp only[go_sem];first|done|simp) (by simp) (by simp) (by rintro _ _ ⟨rfl,rfl⟩;simp) (by intro i hi;rcases(show i=0∨i=1∨i=2∨i=3 by omega) with rfl|rfl|rfl|rfl<;>simp only[go_sem]) ?_
  rintro _ _ ⟨rfl,rfl⟩
  simp only[go_sem]
  with_reducible repeat' (first|refine br ?_ ?_<;>intro h e<;>(try simp only[e,go_sem])<;>clear e|rw[i64w (by omega)]|refine sd ?_<;>try simp only[go_sem]|fail)
  exact lineRet 113100 113101 113102 113103 rfl (by simp only[go_sem]) (by simp only[go_sem]) (by simp only[go_sem]) (by simp only[go_sem]) (by simp only[go_sem]) (by simp only[go_sem]) (by simp only[go_sem]) (by decide)
 rw[if_neg h0]
 have n0:=h0
 clear h0
 by_cases h1:hd=[100,111,119,110]
 ·rw[if_pos h1]
  simp only[ic31,go_sem]
  with_reducible repeat' (first|refine br ?_ ?_<;>intro h e<;>(try simp only[e,go_sem,eq_false n0,eq_true h1,getD_mp hz0,hg0,Int.reduceToNat,hi0])<;>clear e|rw[i64w (by omega)]|refine sd ?_<;>try simp only[go_sem,eq_false n0,eq_true h1,getD_mp hz0,hg0,Int.reduceToNat,hi0]|(first|refine cr (f1 ..) ?_|refine cr (f2 ..) ?_|refine cr (f3 ..) ?_)<;>try simp only[go_sem,eq_false n0,eq_true h1,getD_mp hz0,hg0,Int.reduceToNat,hi0]|fail)
  refine callU (c59 w ⟨2,0,a,b,.zero⟩ hw (by simp[Pk.zero])) [0,1,2,3] [] 131 4 (by simp only[go_sem,Pk.zero,E.zero];first|done|simp[Pk.zero,E.zero]) (by simp only[go_sem];first|done|simp) (by simp) (by simp) (by rintro _ _ ⟨rfl,rfl⟩;simp) (by intro i hi;rcases(show i=0∨i=1∨i=2∨i=3 by omega) with rfl|rfl|rfl|rfl<;>simp only[go_sem]) ?_
  rintro _ _ ⟨rfl,rfl⟩
  simp only[go_sem]
  with_reducible repeat' (first|refine br ?_ ?_<;>intro h e<;>(try simp only[e,go_sem])<;>clear e|rw[i64w (by omega)]|refine sd ?_<;>try simp only[go_sem]|fail)
  exact lineRet 113100 113101 113102 113103 rfl (by simp only[go_sem]) (by simp only[go_sem]) (by simp only[go_sem]) (by simp only[go_sem]) (by simp only[go_sem]) (by simp only[go_sem]) (by simp only[go_sem]) (by decide)
 rw[if_neg h1]
 have n1:=h1
 clear h1
 by_cases h2:hd=[98,114,105,110,103]
 ·rw[if_pos h2]
  simp only[ic31,go_sem]
  with_reducible repeat' (first|refine br ?_ ?_<;>intro h e<;>(try simp only[e,go_sem,eq_false n0,eq_false n1,eq_true h2,getD_mp hz0,hg0,Int.reduceToNat,hi0])<;>clear e|rw[i64w (by omega)]|refine sd ?_<;>try simp only[go_sem,eq_false n0,eq_false n1,eq_true h2,getD_mp hz0,hg0,Int.reduceToNat,hi0]|(first|refine cr (f1 ..) ?_|refine cr (f2 ..) ?_|refine cr (f3 ..) ?_)<;>try simp only[go_sem,eq_false n0,eq_false n1,eq_true h2,getD_mp hz0,hg0,Int.reduceToNat,hi0]|fail)
  refine callU (c59 w ⟨3,a,0,0,.zero⟩ hw (by simp[Pk.zero])) [0,1,2,3] [] 131 4 (by simp only[go_sem,Pk.zero,E.zero];first|done|simp[Pk.zero,E.zero]) (by simp only[go_sem];first|done|simp) (by simp) (by simp) (by rintro _ _ ⟨rfl,rfl⟩;simp) (by intro i hi;rcases(show i=0∨i=1∨i=2∨i=3 by omega) with rfl|rfl|rfl|rfl<;>simp only[go_sem]) ?_
  rintro _ _ ⟨rfl,rfl⟩
  simp only[go_sem]
  with_reducible repeat' (first|refine br ?_ ?_<;>intro h e<;>(try simp only[e,go_sem])<;>clear e|rw[i64w (by omega)]|refine sd ?_<;>try simp only[go_sem]|fail)
  exact lineRet 113100 113101 113102 113103 rfl (by simp only[go_sem]) (by simp only[go_sem]) (by simp only[go_sem]) (by simp only[go_sem]) (by simp only[go_sem]) (by simp only[go_sem]) (by simp only[go_sem]) (by decide)
 rw[if_neg h2]
 have n2:=h2
 clear h2
 by_cases h3:hd=[108,111,115,101]
 ·rw[if_pos h3]
  simp only[ic31,go_sem]
  with_reducible repeat' (first|refine br ?_ ?_<;>intro h e<;>(try simp only[e,go_sem,eq_false n0,eq_false n1,eq_false n2,eq_true h3,getD_mp hz0,hg0,Int.reduceToNat,hi0])<;>clear e|rw[i64w (by omega)]|refine sd ?_<;>try simp only[go_sem,eq_false n0,eq_false n1,eq_false n2,eq_true h3,getD_mp hz0,hg0,Int.reduceToNat,hi0]|(first|refine cr (f1 ..) ?_|refine cr (f2 ..) ?_|refine cr (f3 ..) ?_)<;>try simp only[go_sem,eq_false n0,eq_false n1,eq_false n2,eq_true h3,getD_mp hz0,hg0,Int.reduceToNat,hi0]|fail)
  refine callU (c59 w ⟨4,a,0,0,.zero⟩ hw (by simp[Pk.zero])) [0,1,2,3] [] 131 4 (by simp only[go_sem,Pk.zero,E.zero];first|done|simp[Pk.zero,E.zero]) (by simp only[go_sem];first|done|simp) (by simp) (by simp) (by rintro _ _ ⟨rfl,rfl⟩;simp) (by intro i hi;rcases(show i=0∨i=1∨i=2∨i=3 by omega) with rfl|rfl|rfl|rfl<;>simp only[go_sem]) ?_
  rintro _ _ ⟨rfl,rfl⟩
  simp only[go_sem]
  with_reducible repeat' (first|refine br ?_ ?_<;>intro h e<;>(try simp only[e,go_sem])<;>clear e|rw[i64w (by omega)]|refine sd ?_<;>try simp only[go_sem]|fail)
  exact lineRet 113100 113101 113102 113103 rfl (by simp only[go_sem]) (by simp only[go_sem]) (by simp only[go_sem]) (by simp only[go_sem]) (by simp only[go_sem]) (by simp only[go_sem]) (by simp only[go_sem]) (by decide)
 rw[if_neg h3]
 have n3:=h3
 clear h3
 by_cases h4:hd=[116,119,105,99,101]
 ·rw[if_pos h4]
  simp only[ic31,go_sem]
  with_reducible repeat' (first|refine br ?_ ?_<;>intro h e<;>(try simp only[e,go_sem,eq_false n0,eq_false n1,eq_false n2,eq_false n3,eq_true h4,getD_mp hz0,hg0,Int.reduceToNat,hi0])<;>clear e|rw[i64w (by omega)]|refine sd ?_<;>try simp only[go_sem,eq_false n0,eq_false n1,eq_false n2,eq_false n3,eq_true h4,getD_mp hz0,hg0,Int.reduceToNat,hi0]|(first|refine cr (f1 ..) ?_|refine cr (f2 ..) ?_|refine cr (f3 ..) ?_)<;>try simp only[go_sem,eq_false n0,eq_false n1,eq_false n2,eq_false n3,eq_true h4,getD_mp hz0,hg0,Int.reduceToNat,hi0]|fail)
  refine callU (c59 w ⟨5,a,0,0,.zero⟩ hw (by simp[Pk.zero])) [0,1,2,3] [] 131 4 (by simp only[go_sem,Pk.zero,E.zero];first|done|simp[Pk.zero,E.zero]) (by simp only[go_sem];first|done|simp) (by simp) (by simp) (by rintro _ _ ⟨rfl,rfl⟩;simp) (by intro i hi;rcases(show i=0∨i=1∨i=2∨i=3 by omega) with rfl|rfl|rfl|rfl<;>simp only[go_sem]) ?_
  rintro _ _ ⟨rfl,rfl⟩
  simp only[go_sem]
  with_reducible repeat' (first|refine br ?_ ?_<;>intro h e<;>(try simp only[e,go_sem])<;>clear e|rw[i64w (by omega)]|refine sd ?_<;>try simp only[go_sem]|fail)
  exact lineRet 113100 113101 113102 113103 rfl (by simp only[go_sem]) (by simp only[go_sem]) (by simp only[go_sem]) (by simp only[go_sem]) (by simp only[go_sem]) (by simp only[go_sem]) (by simp only[go_sem]) (by decide)
 rw[if_neg h4]
 have n4:=h4
 clear h4
 by_cases h5:hd=[102,111,114,103,101]
 ·rw[if_pos h5]
  simp only[ic31,go_sem]
  have f4:=c57 (line.drop 6) (by simp;omega)
  have hpt:=pktRead_tl (line.drop 6) (by simp;omega)
  have hdr:line.drop (min line.length 6)=line.drop 6:=by
   rcases Nat.le_total line.length 6 with hle|hle
   ·rw[Nat.min_eq_left hle,List.drop_length,List.drop_eq_nil_of_le hle]
   ·rw[Nat.min_eq_right hle]
  have hmn:min (line.length:Int) 6=((min line.length 6:Nat):Int):=by omega
  obtain⟨p,hp⟩:∃p,p=(pktRead (line.drop 6)).getD .zero:=⟨_,rfl⟩
  rw[←hp] at f4 hpt ⊢
  generalize (pktRead (line.drop 6)).isSome=ok at *
  with_reducible repeat' (first|refine br ?_ ?_<;>intro h e<;>(try simp only[e,go_sem,eq_false n0,eq_false n1,eq_false n2,eq_false n3,eq_false n4,eq_true h5,getD_mp hz0,hg0,Int.reduceToNat,hi0,hmn,Int.toNat_natCast,List.take_length,hdr])<;>clear e|rw[i64w (by omega)]|refine sd ?_<;>try simp only[go_sem,eq_false n0,eq_false n1,eq_false n2,eq_false n3,eq_false n4,eq_true h5,getD_mp hz0,hg0,Int.reduceToNat,hi0,hmn,Int.toNat_natCast,List.take_length,hdr]|(first|refine cr (f1 ..) ?_|refine cr (f2 ..) ?_|refine cr (f3 ..) ?_|refine cr (f4 ..) ?_)<;>try simp only[go_sem,eq_false n0,eq_false n1,eq_false n2,eq_false n3,eq_false n4,eq_true h5,getD_mp hz0,hg0,Int.reduceToNat,hi0,hmn,Int.toNat_natCast,List.take_length,hdr]|fail)
  refine callU (c59 w ⟨6,0,0,0,p⟩ hw (by simp only;omega)) [0,1,2,3] [] 131 4 (by simp only[go_sem];first|done|simp) (by simp only[go_sem];first|done|simp) (by simp) (by simp) (by rintro _ _ ⟨rfl,rfl⟩;simp) (by intro i hi;rcases(show i=0∨i=1∨i=2∨i=3 by omega) with rfl|rfl|rfl|rfl<;>simp only[go_sem]) ?_
  rintro _ _ ⟨rfl,rfl⟩
  simp only[go_sem]
  with_reducible repeat' (first|refine br ?_ ?_<;>intro h e<;>(try simp only[e,go_sem])<;>clear e|rw[i64w (by omega)]|refine sd ?_<;>try simp only[go_sem]|fail)
  exact lineRet 113100 113101 113102 113103 rfl (by simp only[go_sem]) (by simp only[go_sem]) (by simp only[go_sem]) (by simp only[go_sem]) (by simp only[go_sem]) (by simp only[go_sem]) (by simp only[go_sem]) (by decide)
 rw[if_neg h5]
 have n5:=h5
 clear h5
 by_cases h6:hd=[99,97,108,109]
 ·rw[if_pos h6]
  simp only[ic31,go_sem]
  with_reducible repeat' (first|refine br ?_ ?_<;>intro h e<;>(try simp only[e,go_sem,eq_false n0,eq_false n1,eq_false n2,eq_false n3,eq_false n4,eq_false n5,eq_true h6,getD_mp hz0,hg0,Int.reduceToNat,hi0])<;>clear e|rw[i64w (by omega)]|refine sd ?_<;>try simp only[go_sem,eq_false n0,eq_false n1,eq_false n2,eq_false n3,eq_false n4,eq_false n5,eq_true h6,getD_mp hz0,hg0,Int.reduceToNat,hi0]|(first|refine cr (f1 ..) ?_|refine cr (f2 ..) ?_|refine cr (f3 ..) ?_)<;>try simp only[go_sem,eq_false n0,eq_false n1,eq_false n2,eq_false n3,eq_false n4,eq_false n5,eq_true h6,getD_mp hz0,hg0,Int.reduceToNat,hi0]|fail)
  refine callO (o58 w hw.x hok) [0,1,2,3] 62 4 (by simp only[go_sem];first|done|simp[E.row,Pc.row,Pair.row,Part.row,Flw.row,Pk.row,Conv.row]) (by simp only[List.mem_cons,List.not_mem_nil,or_false];rintro c (rfl|rfl|rfl|rfl)<;>simp only[go_sem]) (by rintro _ _ ⟨rfl,rfl⟩;simp) (by intro i hi;rcases(show i=0∨i=1∨i=2∨i=3 by omega) with rfl|rfl|rfl|rfl<;>simp only[go_sem]) ?_
  rintro _ _ ⟨rfl,rfl⟩
  simp only[go_sem]
  with_reducible repeat' (first|refine br ?_ ?_<;>intro h e<;>(try simp only[e,go_sem])<;>clear e|rw[i64w (by omega)]|refine sd ?_<;>try simp only[go_sem]|fail)
  exact lineRet 106200 106201 106202 106203 rfl (by simp only[go_sem]) (by simp only[go_sem]) (by simp only[go_sem]) (by simp only[go_sem]) (by simp only[go_sem]) (by simp only[go_sem]) (by simp only[go_sem]) (by decide)
 rw[if_neg h6]
 have n6:=h6
 clear h6
 by_cases h7:hd=[109,97,112]
 ·rw[if_pos h7]
  simp only[ic31,go_sem]
  have hel:∀p∈w.door.map,((fun p:Pair=>dec p.port++(32::p.ins.text)) p).length≤200:=fun p hp=>by
   have l1:=dec_le2 p.port;have l2:=text_le5 p.ins;simp;omega
  with_reducible repeat' (first|refine br ?_ ?_<;>intro h e<;>(try simp only[e,go_sem,eq_false n0,eq_false n1,eq_false n2,eq_false n3,eq_false n4,eq_false n5,eq_false n6,eq_true h7,getD_mp hz0,hg0,Int.reduceToNat,hi0])<;>clear e|rw[i64w (by omega)]|refine sd ?_<;>try simp only[go_sem,eq_false n0,eq_false n1,eq_false n2,eq_false n3,eq_false n4,eq_false n5,eq_false n6,eq_true h7,getD_mp hz0,hg0,Int.reduceToNat,hi0]|(first|refine cr (f1 ..) ?_|refine cr (f2 ..) ?_|refine cr (f3 ..) ?_)<;>try simp only[go_sem,eq_false n0,eq_false n1,eq_false n2,eq_false n3,eq_false n4,eq_false n5,eq_false n6,eq_true h7,getD_mp hz0,hg0,Int.reduceToNat,hi0]|fail)
  have hjl:∀k,(joinL ((w.door.map.take k).map (fun p:Pair=>dec p.port++(32::p.ins.text)))).length≤10*201:=fun k=>by
   have h1:=joinL_len ((w.door.map.take k).map (fun p:Pair=>dec p.port++(32::p.ins.text))) 200 (fun x hx=>by
    obtain⟨p,hp,rfl⟩:=List.mem_map.1 hx
    exact hel p (List.mem_of_mem_take hp))
   have h2:((w.door.map.take k).map (fun p:Pair=>dec p.port++(32::p.ins.text))).length*201≤10*201:=Nat.mul_le_mul_right _ (by simp only[List.length_map,List.length_take];omega)
   omega
  refine loopN (fun k:Nat=>⟨getL [(2,.pv 1002 0),(4,.pv 1004 0),(10,.str (joinL ((w.door.map.take k).map (fun p:Pair=>dec p.port++(32::p.ins.text))))),(11,.int .i64 (k:Int))],getH [(1002,.var 41 [.own 0 w.convs.length,.own 1 w.door.map.length,.own 2 w.door.flows.length,.own 3 w.nets.length]),(1004,.var 41 [.nils,.nils,.nils,.nils]),(0,.arr 47 10 (w.convs.map Conv.row)),(1,.arr 88 3 (w.door.map.map Pair.row)),(2,.arr 181 8 (w.door.flows.map Flw.row)),(3,.arr 70 7 (w.nets.map Pk.row))]⟩) (fun k=>w.door.map.length - k) (fun k=>k≤w.door.map.length) 0 (leQ []) (Nat.zero_le _) ?_
  intro k hk
  simp only[go_sem]
  by_cases hkl:(k:Int)<w.door.map.length
  ·have hil:k<w.door.map.length:=by omega
   have hg:w.door.map.getD k default=w.door.map[k]:=by simp[List.getD,hil]
   have hm:=List.getElem_mem hil
   have hst:=joinL_step w.door.map (fun p:Pair=>dec p.port++(32::p.ins.text)) k hil
   try simp only at hst
   have hj:=hjl k
   have hpo:=(mapOk_at hmk hil).1
   have g1:=c34 w.door.map[k].port (by omega)
   have g2:=c37 w.door.map[k].ins.a w.door.map[k].ins.p
   have l1:=dec_le2 w.door.map[k].port
   have l2:=text_le5 w.door.map[k].ins
   rw[show E.text ⟨w.door.map[k].ins.a,w.door.map[k].ins.p⟩=w.door.map[k].ins.text from rfl] at g2
   generalize w.door.map[k]=p at *
   generalize dec p.port=x at *
   generalize p.ins.text=y at *
   generalize hJ:joinL ((w.door.map.take k).map (fun p:Pair=>dec p.port++(32::p.ins.text)))=J at *
   simp only[eq_true hkl,go_sem]
   with_reducible repeat' (first|rw[i64w (by omega)];try simp only[go_sem,getD_mp hil,hg,zA,zC,zN,zZ,zP,zU]|refine br ?_ ?_<;>intro h e<;>(try simp only[e,go_sem,getD_mp hil,hg,zA,zC,zN,zZ,zP,zU])<;>clear e|refine sd ?_<;>try simp only[go_sem,getD_mp hil,hg,zA,zC,zN,zZ,zP,zU]|(first|refine cr (g1 ..) ?_|refine cr (g2 ..) ?_)<;>try simp only[go_sem,getD_mp hil,hg,zA,zC,zN,zZ,zP,zU]|fail)
   all_goals first
    | (refine⟨k+1,by omega,by omega, ?_⟩;simp only[hst];refine leN [] ?_ ?_ (by simp[getN]) (by simp only[go_sem])<;>simp only[go_sem]<;>(try simp);done)
    | trace_state
  ·simp only[eq_false hkl,go_sem]
   obtain rfl:k=w.door.map.length:=by omega
   have hj:=hjl w.door.map.length
   rw[List.take_length] at hj ⊢
   have g1:=c34 (w.door.map.length:Int) (by omega)
   have l1:=dec_le2 (w.door.map.length:Int)
   rw[dec_nat] at g1 l1
   generalize hJ:joinL (w.door.map.map (fun p:Pair=>dec p.port++(32::p.ins.text)))=J at *
   generalize hD:decN w.door.map.length=D at *
   with_reducible repeat' (first|refine br ?_ ?_<;>intro h e<;>(try simp only[e,go_sem,zA,zC,zN,zZ,zP,zU])<;>clear e|rw[i64w (by omega)]|refine sd ?_<;>try simp only[go_sem,zA,zC,zN,zZ,zP,zU]|(first|refine cr (g1 ..) ?_)<;>try simp only[go_sem,zA,zC,zN,zZ,zP,zU]|fail)
   all_goals first
    | exact lineRet 0 1 2 3 rfl (by simp only[go_sem]) (by simp only[go_sem];first|done|simp) (by simp only[go_sem]) (by simp only[go_sem]) (by simp only[go_sem]) (by simp only[go_sem]) (by simp only[go_sem]) (by decide)
    | trace_state
 rw[if_neg h7]
 have n7:=h7
 clear h7
 by_cases h8:hd=[110,101,116,115]
 ·rw[if_pos h8]
  simp only[ic31,go_sem]
  have hel:∀p∈w.nets,(pktText p).length≤200:=fun p hp=>by
   have l1:=pktText_len p;have l2:=(hw.net p hp).pk.len;omega
  with_reducible repeat' (first|refine br ?_ ?_<;>intro h e<;>(try simp only[e,go_sem,eq_false n0,eq_false n1,eq_false n2,eq_false n3,eq_false n4,eq_false n5,eq_false n6,eq_false n7,eq_true h8,getD_mp hz0,hg0,Int.reduceToNat,hi0])<;>clear e|rw[i64w (by omega)]|refine sd ?_<;>try simp only[go_sem,eq_false n0,eq_false n1,eq_false n2,eq_false n3,eq_false n4,eq_false n5,eq_false n6,eq_false n7,eq_true h8,getD_mp hz0,hg0,Int.reduceToNat,hi0]|(first|refine cr (f1 ..) ?_|refine cr (f2 ..) ?_|refine cr (f3 ..) ?_)<;>try simp only[go_sem,eq_false n0,eq_false n1,eq_false n2,eq_false n3,eq_false n4,eq_false n5,eq_false n6,eq_false n7,eq_true h8,getD_mp hz0,hg0,Int.reduceToNat,hi0]|fail)
  have hjl:∀k,(joinL ((w.nets.take k).map pktText)).length≤10*201:=fun k=>by
   have h1:=joinL_len ((w.nets.take k).map pktText) 200 (fun x hx=>by
    obtain⟨p,hp,rfl⟩:=List.mem_map.1 hx
    exact hel p (List.mem_of_mem_take hp))
   have h2:((w.nets.take k).map pktText).length*201≤10*201:=Nat.mul_le_mul_right _ (by simp only[List.length_map,List.length_take];omega)
   omega
  refine loopN (fun k:Nat=>⟨getL [(2,.pv 1002 0),(4,.pv 1004 0),(12,.str (joinL ((w.nets.take k).map pktText))),(13,.int .i64 (k:Int))],getH [(1002,.var 41 [.own 0 w.convs.length,.own 1 w.door.map.length,.own 2 w.door.flows.length,.own 3 w.nets.length]),(1004,.var 41 [.nils,.nils,.nils,.nils]),(0,.arr 47 10 (w.convs.map Conv.row)),(1,.arr 88 3 (w.door.map.map Pair.row)),(2,.arr 181 8 (w.door.flows.map Flw.row)),(3,.arr 70 7 (w.nets.map Pk.row))]⟩) (fun k=>w.nets.length - k) (fun k=>k≤w.nets.length) 0 (leQ []) (Nat.zero_le _) ?_
  intro k hk
  simp only[go_sem]
  by_cases hkl:(k:Int)<w.nets.length
  ·have hil:k<w.nets.length:=by omega
   have hg:w.nets.getD k default=w.nets[k]:=by simp[List.getD,hil]
   have hm:=List.getElem_mem hil
   have hst:=joinL_step w.nets pktText k hil
   try simp only at hst
   have hj:=hjl k
   have l1:=pktText_len w.nets[k]
   have l2:=(hw.net _ hm).pk.len
   have g1:=c35 w.nets[k] (by omega)
   generalize w.nets[k]=p at *
   generalize pktText p=x at *
   generalize hJ:joinL ((w.nets.take k).map pktText)=J at *
   simp only[eq_true hkl,go_sem]
   with_reducible repeat' (first|rw[i64w (by omega)];try simp only[go_sem,getD_mp hil,hg,zA,zC,zN,zZ,zP,zU]|refine br ?_ ?_<;>intro h e<;>(try simp only[e,go_sem,getD_mp hil,hg,zA,zC,zN,zZ,zP,zU])<;>clear e|refine sd ?_<;>try simp only[go_sem,getD_mp hil,hg,zA,zC,zN,zZ,zP,zU]|(first|refine cr (g1 ..) ?_)<;>try simp only[go_sem,getD_mp hil,hg,zA,zC,zN,zZ,zP,zU]|fail)
   all_goals first
    | (refine⟨k+1,by omega,by omega, ?_⟩;simp only[hst];refine leN [] ?_ ?_ (by simp[getN]) (by simp only[go_sem])<;>simp only[go_sem]<;>(try simp);done)
    | trace_state
  ·simp only[eq_false hkl,go_sem]
   obtain rfl:k=w.nets.length:=by omega
   have hj:=hjl w.nets.length
   rw[List.take_length] at hj ⊢
   have g1:=c34 (w.nets.length:Int) (by omega)
   have l1:=dec_le2 (w.nets.length:Int)
   rw[dec_nat] at g1 l1
   generalize hJ:joinL (w.nets.map pktText)=J at *
   generalize hD:decN w.nets.length=D at *
   with_reducible repeat' (first|refine br ?_ ?_<;>intro h e<;>(try simp only[e,go_sem,zA,zC,zN,zZ,zP,zU])<;>clear e|rw[i64w (by omega)]|refine sd ?_<;>try simp only[go_sem,zA,zC,zN,zZ,zP,zU]|(first|refine cr (g1 ..) ?_)<;>try simp only[go_sem,zA,zC,zN,zZ,zP,zU]|fail)
   all_goals first
    | exact lineRet 0 1 2 3 rfl (by simp only[go_sem]) (by simp only[go_sem];first|done|simp) (by simp only[go_sem]) (by simp only[go_sem]) (by simp only[go_sem]) (by simp only[go_sem]) (by simp only[go_sem]) (by decide)
    | trace_state
 rw[if_neg h8]
 have n8:=h8
 clear h8
 simp only[ic31,go_sem]
 with_reducible repeat' (first|refine br ?_ ?_<;>intro h e<;>(try simp only[e,go_sem,eq_false n0,eq_false n1,eq_false n2,eq_false n3,eq_false n4,eq_false n5,eq_false n6,eq_false n7,eq_false n8,getD_mp hz0,hg0,Int.reduceToNat,hi0])<;>clear e|rw[i64w (by omega)]|refine sd ?_<;>try simp only[go_sem,eq_false n0,eq_false n1,eq_false n2,eq_false n3,eq_false n4,eq_false n5,eq_false n6,eq_false n7,eq_false n8,getD_mp hz0,hg0,Int.reduceToNat,hi0]|(first|refine cr (f1 ..) ?_|refine cr (f2 ..) ?_|refine cr (f3 ..) ?_)<;>try simp only[go_sem,eq_false n0,eq_false n1,eq_false n2,eq_false n3,eq_false n4,eq_false n5,eq_false n6,eq_false n7,eq_false n8,getD_mp hz0,hg0,Int.reduceToNat,hi0]|fail)
 exact lineRet 0 1 2 3 rfl (by simp only[go_sem]) (by simp only[go_sem]) (by simp only[go_sem]) (by simp only[go_sem]) (by simp only[go_sem]) (by simp only[go_sem]) (by simp only[go_sem]) (by decide)
theorem lineDo_len {w:M.World} (hw:WI w) (l:B):(lineDo w l).2.length≤2100:=by
 have hnl:=hw.nl
 have hml:=(mapOk_ports (doorOk_iff.1 hw.door).1).2
 obtain⟨h,r,hc⟩:=words_hd l
 rw[lineDo_h w l hc]
 have h1:=joinL_len (w.door.map.map fun p=>dec p.port++(32::p.ins.text)) 200 (fun x hx=>by
  obtain⟨p,hp,rfl⟩:=List.mem_map.1 hx
  have l1:=dec_le2 p.port
  have l2:=text_le5 p.ins
  simp
  omega)
 have h2:=joinL_len (w.nets.map pktText) 200 (fun x hx=>by
  obtain⟨p,hp,rfl⟩:=List.mem_map.1 hx
  have l1:=pktText_len p
  have l2:=(hw.net p hp).pk.len
  omega)
 have h3:(w.door.map.map fun p=>dec p.port++(32::p.ins.text)).length*(200+1)≤10*201:=Nat.mul_le_mul_right _ (by simp;omega)
 have h4:(w.nets.map pktText).length*(200+1)≤10*201:=Nat.mul_le_mul_right _ (by simp;omega)
 have h5:=dec_le2 (w.door.map.length:Int)
 have h6:=dec_le2 (w.nets.length:Int)
 rw[dec_nat] at h5 h6
 iterate 7
  split
  ·simp
 split
 ·simp only[zA,zC,zN];omega
 split
 ·simp only[zA,zC,zN];omega
 ·simp
theorem line_hlit (up down:B):[[V.int .i64 1,V.int .i64 1,V.int .i64 4,V.int .i64 4,V.str up,V.str down,V.int .i64 0,V.int .i64 0,V.str [],V.str []]]=[lineConv up down].map Conv.row:=rfl
theorem line_conv {w:M.World} (h:SI CK CN w) (h1:w.convs.length=1):∃c,w.convs=[c]∧convOk c=true:=by
 match hc:w.convs,h1 with
 | [c],_=>exact⟨c,rfl,h.wi.cv c (by rw[hc];simp)⟩
def ic16:IC:=sR [oP 6 (.mv (.c s0))] (sR [oP 15 (.build [i0,i0] [(0,(1,.c (.int .i64 1))),(1,(1,.c (.int .i64 1)))]),oP 16 (.build [i0,i0] [(0,(1,.c (.int .i64 4))),(1,(1,.c (.int .i64 4)))]),mV 17 0,mV 18 1,oP 19 (.build [i0,i0,i0,i0,s0,s0,i0,i0,s0,s0] [(0,(2,.t 15)),(2,(2,.t 16)),(4,(1,.t 17)),(5,(1,.t 18))]),oP 20 (.bsl 47 10 [.t 19]),oP 21 (.call 29 [.t 20]),mV 14 21,eX 22 14 0,eX 23 14 1,oP 7 (.alloc 41 [.nils,.nils,.nils,.nils]),nP (.sto 4 (.t 7) (.t 22)),mV 8 23] (.seq (sR [mV 24 8,oP 25 (.un .not (.t 24))] (.cond (.t 25) (sR [oP 6 (.mv (.c (.str [110,111,32,119,111,114,108,100,10])))] .ret) .skip)) (.seq (sR [mV 26 2,oP 27 (.lens (.t 26)),oP 28 (.bin .gtr (.t 27) (.c (.int .i64 600)))] (.cond (.t 28) (sR [oP 6 (.mv (.c (.str [116,111,111,32,108,111,110,103,10])))] .ret) .skip)) (sR [oP 9 (.mv (.c s0))] (sR [mV 29 2,oP 30 (.call 30 [.t 29,.c (.int .u8 10)]),mV 10 30] (.seq (sR [oP 11 (.mv (.c i0))] (.block 0 (.loop (.seq (sR [mV 31 11,oP 32 (.bin .add (.t 31) (.c (.int .i64 1))),mV 33 10,oP 34 (.len (.t 33)),bN 35 .lss 32 34] (.cond (.t 35) .skip (.exit 0))) (.seq (.block 1 (.seq (.drw [0,0,0,6,14,31,63,127,127,0,767,2047] [(0,lA 39 4 7),(1,mV 40 10),(2,mV 41 11),(3,oP 42 (.iad 1 (.t 40) (.t 41))),(4,lD 43 1 42),(5,oP 44 (.call 31 [.t 39,.t 43])),(6,mV 38 44),(7,eX 45 38 0),(8,eX 46 38 1),(9,oP 12 (.alloc 41 [.nils,.nils,.nils,.nils])),(10,nP (.sto 4 (.t 12) (.t 45))),(11,mV 13 46)]) (sR [lA 47 4 12,nP (.sto 4 (.t 7) (.t 47))] (.reg [mV 48 9,mV 49 13,bN 50 .add 48 49,mV 9 50])))) (.reg [mV 36 11,oP 37 (.bin .add (.t 36) (.c (.int .i64 1))),mV 11 37])))))) (sR [mV 51 9,lA 52 4 7,oP 53 (.call 32 [.t 52]),bN 54 .add 51 53,mV 6 54] .ret)))))))
theorem dg16:Dg Tryz.prog 16 Tryz.f16 ic16 [(.t 6)]:=⟨Tryz.func16,by kernel_rfl,by kernel_rfl⟩
set_option maxHeartbeats 4000000 in
theorem c16 (up down text:B) (h1:up.length≤2000000) (h2:down.length≤2000000) (h3:text.length≤2000000):FnR Tryz.prog G 16 [.str up,.str down,.str text] (.str (linesRun up down text)):=by
 refine mF dg16 Tryz.ntmps16 ?_
 have hone:([lineConv up down]:List Conv).length=1:=rfl
 simp only[ic16,go_sem]
 with_reducible repeat' (first|refine br ?_ ?_<;>intro h e<;>(try simp only[e,go_sem])<;>clear e|rw[i64w (by omega)]|refine sd ?_<;>try simp only[go_sem]|fail)
 simp only[line_hlit]
 refine callN (c29 [lineConv up down] (by simp) (by simp[lineConv];omega)) [] [1020] false 21 4 (by simp only[go_sem];first|done|simp) trivial (by simp) (by simp) (by simp only[List.mem_singleton];rintro c rfl;exact⟨rfl,by simp⟩) ?_ ?_ ?_
 ·rintro _ _ (⟨w,h,rfl,rfl⟩|⟨h,rfl,rfl⟩)
  ·refine⟨by simp,by simp,.inr ⟨by simp[V.plain,V.plain2,V.plain1,V.plain0], ?_⟩,fun i hi=>by omega⟩
   obtain⟨_,_,hz,hn⟩:=worldNew_is h
   intro s hs
   simp only[List.mem_cons,List.not_mem_nil,or_false] at hs
   rcases hs with rfl|rfl|rfl|rfl
   ·exact cvP _
   ·rw[hz];rfl
   ·rw[hz];rfl
   ·rw[hn];rfl
  ·exact⟨by simp,by simp,.inr ⟨by simp[V.plain,V.plain2,V.plain1,V.plain0],by simp⟩,fun i hi=>by omega⟩
 ·intro i hi;rcases(show i=0∨i=1∨i=2∨i=3 by omega) with rfl|rfl|rfl|rfl<;>simp only[go_sem]
 rintro _ _ (⟨w,hw,rfl,rfl⟩|⟨hw,rfl,rfl⟩)
 rotate_left
 ·have e:linesRun up down text=[110,111,32,119,111,114,108,100,10]:=by simp only[linesRun,hw]
  rw[e]
  simp only[go_sem]
  with_reducible repeat' (first|refine br ?_ ?_<;>intro h e<;>(try simp only[e,go_sem])<;>clear e|rw[i64w (by omega)]|refine sd ?_<;>try simp only[go_sem]|fail)
 by_cases h6:(600:Int)<text.length
 ·have e:linesRun up down text=[116,111,111,32,108,111,110,103,10]:=by simp only[linesRun,hw];rw[if_pos (by omega)]
  rw[e]
  simp only[go_sem,eq_true h6]
  with_reducible repeat' (first|refine br ?_ ?_<;>intro h e<;>(try simp only[e,go_sem,eq_true h6])<;>clear e|rw[i64w (by omega)]|refine sd ?_<;>try simp only[go_sem,eq_true h6]|fail)
 have e:linesRun up down text=(linesDo w (cutAll 10 text).dropLast).2++linesEnd (linesDo w (cutAll 10 text).dropLast).1:=by simp only[linesRun,hw];rw[if_neg (by omega)]
 rw[e]
 have hsi:=lines_calm hw []
 have hcon:=lines_one hw []
 have f1:=c30 text 10 (by omega)
 simp only[show((UInt8.toNat 10:Nat):Int)=10 from rfl] at f1
 have hln:=cutAll_len 10 text
 have hmem:=cutAll_mem 10 text
 have hne:=cutAll_ne 10 text
 generalize hLS:cutAll 10 text=LS at *
 have hpos:1≤LS.length:=by
  cases LS with
  | nil=>exact absurd rfl hne
  | cons a b=>simp
 simp only[go_sem,eq_false h6]
 with_reducible repeat' (first|refine br ?_ ?_<;>intro h e<;>(try simp only[e,go_sem,eq_false h6])<;>clear e|rw[i64w (by omega)]|refine sd ?_<;>try simp only[go_sem,eq_false h6]|(first|refine cr (f1 ..) ?_)<;>try simp only[go_sem,eq_false h6]|fail)
 refine loopN (fun a:Nat×M.World×B=>⟨getL [(7,.pv 1007 0),(9,.str a.2.2),(10,.sl 1 (LS.map fun x=>[.str x])),(11,.int .i64 (a.1:Int))],getH [(1007,.var 41 [.own 102100 a.2.1.convs.length,.own 102101 a.2.1.door.map.length,.own 102102 a.2.1.door.flows.length,.own 102103 a.2.1.nets.length]),(102100,.arr 47 10 (a.2.1.convs.map Conv.row)),(102101,.arr 88 3 (a.2.1.door.map.map Pair.row)),(102102,.arr 181 8 (a.2.1.door.flows.map Flw.row)),(102103,.arr 70 7 (a.2.1.nets.map Pk.row))]⟩)
  (fun a=>LS.length - a.1) (fun a=>a.1+1≤LS.length∧SI CK CN a.2.1∧a.2.1.convs.length=1∧a.2.2.length≤2100*a.1∧linesDo w LS.dropLast=((linesDo a.2.1 (LS.drop a.1).dropLast).1,a.2.2++(linesDo a.2.1 (LS.drop a.1).dropLast).2)) (0,w,[]) (leQ []) ⟨by simp only;omega,hsi,hcon,by simp,by simp⟩ ?_
 intro⟨i,v,out⟩ ⟨g1,g2,g3,g4,g5⟩
 simp only at g1 g2 g3 g4 g5
 simp only[go_sem]
 have hi1:IntKind.i64.wrap ((i:Int)+1)=(i:Int)+1:=i64w (by omega)
 by_cases h:(i:Int)+1<LS.length
 ·have hil:i<LS.length:=by omega
  have hg:LS.getD i default=LS[i]:=by simp[List.getD,hil]
  have hl:=hmem _ (List.getElem_mem hil)
  have hd:(LS.drop i).dropLast=LS[i]::(LS.drop (i+1)).dropLast:=by
   rw[List.drop_eq_getElem_cons hil]
   cases hq:LS.drop (i+1) with
   | nil =>
     have:=congrArg List.length hq
     simp at this
     omega
   | cons a b=>rfl
  rw[hd] at g5
  generalize LS[i]=line at *
  have hll:=lineDo_len g2.wi line
  have hsi2:=lineDo_si calm_step g2 line
  have hex:=(lineDo_ext v line).len
  have hj:linesDo v (line::(LS.drop (i+1)).dropLast)=((linesDo (lineDo v line).1 (LS.drop (i+1)).dropLast).1,(lineDo v line).2++(linesDo (lineDo v line).1 (LS.drop (i+1)).dropLast).2):=rfl
  rw[hj] at g5
  simp only[hi1,eq_true h,go_sem]
  with_reducible repeat' (first|refine br ?_ ?_<;>intro h e<;>(try simp only[e,go_sem,getD_mp hil,hg])<;>clear e|rw[i64w (by omega)]|refine sd ?_<;>try simp only[go_sem,getD_mp hil,hg]|fail)
  refine callU (c31 v line g2.wi (si_ok g2) (by omega)) [102100,102101,102102,102103] [] 44 4 (by simp only[go_sem];first|done|simp) (by simp only[go_sem];first|done|simp) (by simp) (by simp) (by rintro _ _ ⟨rfl,rfl⟩;simp) (by intro i hi;rcases(show i=0∨i=1∨i=2∨i=3 by omega) with rfl|rfl|rfl|rfl<;>simp only[go_sem]) ?_
  rintro _ _ ⟨rfl,rfl⟩
  simp only[go_sem]
  generalize lineDo v line=x at *
  with_reducible repeat' (first|rw[i64w (by omega)];try simp only[go_sem,zA]|refine br ?_ ?_<;>intro h e<;>(try simp only[e,go_sem,zA])<;>clear e|refine sd ?_<;>try simp only[go_sem,zA]|fail)
  exact⟨(i+1,x.1,out++x.2),by simp only;omega,⟨by simp only;omega,hsi2,by simp only;omega,by simp only[zA];omega,by simp only;rw[g5,List.append_assoc]⟩,(leQ [(102100,104400),(102101,104401),(102102,104402),(102103,104403)])⟩
 ·simp only[hi1,eq_false h,go_sem]
  have hd:(LS.drop i).dropLast=[]:=by
   have:(LS.drop i).length=1:=by simp;omega
   match hq:LS.drop i,this with
   | [a],_=>rfl
  rw[hd,show linesDo v []=(v,[]) from rfl,List.append_nil] at g5
  rw[g5]
  obtain⟨c,hc,hok⟩:=line_conv g2 g3
  have fa:=c32 v c hc hok
  have hel:(linesEnd v).length≤1000:=by
   obtain⟨_,_,l3,l4⟩:=endB hok
   have l1:=dec_le2 c.upAck
   have l2:=dec_le2 c.downAck
   simp only[linesEnd,hc,zA,zC,zN]
   omega
  generalize linesEnd v=ee at *
  simp only
  with_reducible repeat' (first|refine br ?_ ?_<;>intro h e<;>(try simp only[e,go_sem])<;>clear e|rw[i64w (by omega)]|refine sd ?_<;>try simp only[go_sem]|fail)
  refine callF fa [102100,102101,102102,102103] true (by simp only[go_sem];first|done|simp[E.row,Pc.row,Pair.row,Part.row,Flw.row,Pk.row,Conv.row]) (by simp only[List.mem_cons,List.not_mem_nil,or_false];rintro c (rfl|rfl|rfl|rfl)<;>simp only[go_sem]) rfl (.inl rfl) ?_
  simp only[go_sem]
  with_reducible repeat' (first|refine br ?_ ?_<;>intro h e<;>(try simp only[e,go_sem])<;>clear e|rw[i64w (by omega)]|refine sd ?_<;>try simp only[go_sem]|fail)
theorem forge_trim {line:B} {r:List B} (h:cutAll 32 line=[102,111,114,103,101]::r):pktRead (if([102,111,114,103,101,32]:B).isPrefixOf line then line.drop ([102,111,114,103,101,32]:B).length else line)=pktRead (line.drop 6):=by
 by_cases h32:(32:UInt8)∈line
 ·obtain⟨us,bs,hs,hna⟩:=List.eq_append_cons_of_mem h32
  subst hs
  rw[cutAll_app,cutAll_one hna] at h
  simp only[List.cons_append,List.nil_append,List.cons.injEq] at h
  obtain⟨rfl,_⟩:=h
  have hp:([102,111,114,103,101,32]:B).isPrefixOf ([102,111,114,103,101]++32::bs)=true:=by simp[List.isPrefixOf]
  rw[if_pos hp]
  rfl
 ·rw[cutAll_one h32] at h
  simp only[List.cons.injEq] at h
  obtain⟨rfl,_⟩:=h
  decide +kernel
def ic26:IC:=sR [oP 4 (.mv (.c s0))] (sR [mV 14 1,oP 15 (.call 44 [.t 14,.c (.str [32])]),mV 5 15] (.seq (sR [mV 16 5,oP 17 (.iad 1 (.t 16) (.c i0)),lD 18 1 17] (.block 0 (sR [oP 20 (.bin .eql (.t 18) (.c (.str [117,112]))),mV 19 20] (.cond (.t 19) (.reg [mV 21 0,mV 22 5,oP 23 (.call 46 [.t 22,.c (.int .i64 1)]),mV 24 5,oP 25 (.call 46 [.t 24,.c (.int .i64 2)]),oP 26 (.build [i0,i0,i0,i0,i0,i0,i0,i0,i0,i0,s0] [(0,(1,.c (.int .i64 1))),(2,(1,.t 23)),(3,(1,.t 25))]),oP 27 (.call 45 [.t 21,.t 26])]) (sR [oP 29 (.bin .eql (.t 18) (.c (.str [100,111,119,110]))),mV 28 29] (.cond (.t 28) (.reg [mV 30 0,mV 31 5,oP 32 (.call 46 [.t 31,.c (.int .i64 1)]),mV 33 5,oP 34 (.call 46 [.t 33,.c (.int .i64 2)]),oP 35 (.build [i0,i0,i0,i0,i0,i0,i0,i0,i0,i0,s0] [(0,(1,.c (.int .i64 2))),(2,(1,.t 32)),(3,(1,.t 34))]),oP 36 (.call 45 [.t 30,.t 35])]) (sR [oP 38 (.bin .eql (.t 18) (.c (.str [98,114,105,110,103]))),mV 37 38] (.cond (.t 37) (.reg [mV 39 0,mV 40 5,oP 41 (.call 46 [.t 40,.c (.int .i64 1)]),oP 42 (.build [i0,i0,i0,i0,i0,i0,i0,i0,i0,i0,s0] [(0,(1,.c (.int .i64 3))),(1,(1,.t 41))]),oP 43 (.call 45 [.t 39,.t 42])]) (sR [oP 45 (.bin .eql (.t 18) (.c (.str [108,111,115,101]))),mV 44 45] (.cond (.t 44) (.reg [mV 46 0,mV 47 5,oP 48 (.call 46 [.t 47,.c (.int .i64 1)]),oP 49 (.build [i0,i0,i0,i0,i0,i0,i0,i0,i0,i0,s0] [(0,(1,.c (.int .i64 4))),(1,(1,.t 48))]),oP 50 (.call 45 [.t 46,.t 49])]) (sR [oP 52 (.bin .eql (.t 18) (.c (.str [116,119,105,99,101]))),mV 51 52] (.cond (.t 51) (.reg [mV 53 0,mV 54 5,oP 55 (.call 46 [.t 54,.c (.int .i64 1)]),oP 56 (.build [i0,i0,i0,i0,i0,i0,i0,i0,i0,i0,s0] [(0,(1,.c (.int .i64 5))),(1,(1,.t 55))]),oP 57 (.call 45 [.t 53,.t 56])]) (sR [oP 59 (.bin .eql (.t 18) (.c (.str [102,111,114,103,101]))),mV 58 59] (.cond (.t 58) (sR [mV 61 1,oP 62 (.call 48 [.t 61,.c (.str [102,111,114,103,101,32])]),oP 63 (.call 47 [.t 62]),mV 60 63,eX 64 60 0,eX 65 60 1,oP 6 (.alloc 70 [i0,i0,i0,i0,i0,i0,s0]),nP (.sto 7 (.t 6) (.t 64)),mV 7 65] (sR [mV 66 7] (.cond (.t 66) (.reg [mV 67 0,lA 68 7 6,oP 69 (.build [i0,i0,i0,i0,i0,i0,i0,i0,i0,i0,s0] [(0,(1,.c (.int .i64 6))),(4,(7,.t 68))]),oP 70 (.call 45 [.t 67,.t 69])]) .skip))) (sR [oP 72 (.bin .eql (.t 18) (.c (.str [99,97,108,109]))),mV 71 72] (.cond (.t 71) (.reg [mV 73 0,oP 74 (.call 49 [.t 73])]) (sR [oP 76 (.bin .eql (.t 18) (.c (.str [109,97,112]))),mV 75 76] (.cond (.t 75) (sR [oP 77 (.bsl 9 1 []),mV 8 77] (.seq (sR [mV 78 0,oP 79 (.nilc (.t 78)),fD 80 1 79,fD 81 0 80,lD 82 1 81,oP 83 (.len (.t 82)),oP 84 (.mv (.c i0))] (.block 1 (.loop (sR [bN 85 .lss 84 83] (.seq (.cond (.t 85) .skip (.exit 1)) (.seq (.block 2 (sR [oP 86 (.iad 3 (.t 82) (.t 84)),lA 87 3 86,oP 10 (.alloc 88 [i0,i0,i0]),nP (.sto 3 (.t 10) (.t 87))] (.drw [0,0,2,6,14,0,32,110,254,510,1023,2047] [(0,mV 88 8),(1,fD 89 0 10),(2,lD 90 1 89),(3,oP 91 (.call 27 [.t 90])),(4,oP 92 (.bin .add (.t 91) (.c (.str [32])))),(5,fD 93 1 10),(6,lA 94 2 93),(7,oP 95 (.call 50 [.t 94])),(8,bN 96 .add 92 95),(9,oP 97 (.bsl 9 1 [.t 96])),(10,oP 98 (.app 9 1 (.t 88) (.t 97))),(11,mV 8 98)]))) (.reg [oP 99 (.bin .add (.t 84) (.c (.int .i64 1))),mV 84 99]))))))) (sR [mV 100 8,oP 101 (.call 51 [.t 100]),mV 4 101] .ret))) (sR [oP 103 (.bin .eql (.t 18) (.c (.str [110,101,116,115]))),mV 102 103] (.cond (.t 102) (sR [oP 104 (.bsl 9 1 []),mV 11 104] (.seq (sR [mV 105 0,oP 106 (.nilc (.t 105)),fD 107 3 106,lD 108 1 107,oP 109 (.len (.t 108)),oP 110 (.mv (.c i0))] (.block 3 (.loop (sR [bN 111 .lss 110 109] (.seq (.cond (.t 111) .skip (.exit 3)) (.seq (.block 4 (sR [oP 112 (.iad 7 (.t 108) (.t 110)),lA 113 7 112,oP 13 (.alloc 70 [i0,i0,i0,i0,i0,i0,s0]),nP (.sto 7 (.t 13) (.t 113))] (.reg [mV 114 11,lA 115 7 13,oP 116 (.call 52 [.t 115]),oP 117 (.bsl 9 1 [.t 116]),oP 118 (.app 9 1 (.t 114) (.t 117)),mV 11 118]))) (.reg [oP 119 (.bin .add (.t 110) (.c (.int .i64 1))),mV 110 119]))))))) (sR [mV 120 11,oP 121 (.call 51 [.t 120]),mV 4 121] .ret))) (sR [oP 4 (.mv (.c (.str [119,104,97,116,10])))] .ret))))))))))))))))))))) (sR [oP 4 (.mv (.c s0))] .ret)))
theorem dg26:Dg Tryz.prog 26 Tryz.f26 ic26 [(.t 4)]:=⟨Tryz.func26,by kernel_rfl,by kernel_rfl⟩
set_option maxHeartbeats 8000000 in
theorem c26 (w:M.World) (line:B) (hw:WI w) (hl:line.length≤1000):FnP Tryz.prog G 26 1 [.var 41 [.own 2 w.convs.length,.sl 3 (w.door.map.map Pair.row),.own 1 w.door.flows.length,.own 3 w.nets.length],.arr 181 8 (w.door.flows.map Flw.row),.arr 47 10 (w.convs.map Conv.row),.arr 70 7 (w.nets.map Pk.row)] [.pv 0 0,.str line] (fun r o=>r=.str (lineDo w line).2∧∃v,v=(lineDo w line).1∧o=[.var 41 [.own 2 v.convs.length,.sl 3 (v.door.map.map Pair.row),.own 1 v.door.flows.length,.own 3 v.nets.length],.arr 181 8 (v.door.flows.map Flw.row),.arr 47 10 (v.convs.map Conv.row),.arr 70 7 (v.nets.map Pk.row)]):=by
 refine mP dg26 Tryz.ntmps26 ⟨_,_,rfl,_,rfl,rfl⟩ ?_
 have hnl:=hw.nl
 have hml:=(mapOk_ports (doorOk_iff.1 hw.door).1).2
 have hmk:=(doorOk_iff.1 hw.door).1
 have f1:=c44 line 32 (by omega)
 have hln:=cutAll_len 32 line
 have hmem:=cutAll_mem 32 line
 obtain⟨hd,r,hc⟩:=words_hd line
 have hL:=lineDo_h w line hc
 rw[hc] at f1 hln hmem
 have f2:=c46 (hd::r) 1 (by omega) (fun x hx=>by have:=hmem x hx;omega)
 have f3:=c46 (hd::r) 2 (by omega) (fun x hx=>by have:=hmem x hx;omega)
 rw[hL]
 clear hL
 have hz0:0<(hd::r).length:=by simp
 have hg0:(hd::r).getD 0 default=hd:=rfl
 have hi0:((0:Int)<((hd::r).length:Int))=True:=eq_true (by simp only[zC];omega)
 generalize hws:hd::r=ws at *
 generalize hw1:wordAt ws 1=a at *
 generalize hw2:wordAt ws 2=b at *
 simp only[show(((1:Nat):Int))=1 from rfl] at f2
 simp only[show(((2:Nat):Int))=2 from rfl] at f3
 have fin:∀l mm (v V:M.World) (S:B) (n1 n2 n3:Nat),v=V→getL l 4=.str S→getH mm 0=.var 41 [.own n2 v.convs.length,.sl 3 (v.door.map.map Pair.row),.own n1 v.door.flows.length,.own n3 v.nets.length]→[0,n1,n2,n3].Nodup→getH mm n1=.arr 181 8 (v.door.flows.map Flw.row)→getH mm n2=.arr 47 10 (v.convs.map Conv.row)→getH mm n3=.arr 70 7 (v.nets.map Pk.row) →
  retQ [.t 4] 1 (fun r o=>r=.str S∧∃v,v=V∧o=[.var 41 [.own 2 v.convs.length,.sl 3 (v.door.map.map Pair.row),.own 1 v.door.flows.length,.own 3 v.nets.length],.arr 181 8 (v.door.flows.map Flw.row),.arr 47 10 (v.convs.map Conv.row),.arr 70 7 (v.nets.map Pk.row)]) .ret ⟨getL l,getH mm⟩:=fun l mm v V S n1 n2 n3 hx h1 h2 h3 h4 h5 h6=>by
  refine retN (.str S) [.var 41 [.own 2 v.convs.length,.sl 3 (v.door.map.map Pair.row),.own 1 v.door.flows.length,.own 3 v.nets.length],.arr 181 8 (v.door.flows.map Flw.row),.arr 47 10 (v.convs.map Conv.row),.arr 70 7 (v.nets.map Pk.row)] [(1,n1),(2,n2),(3,n3)] (by simp only[go_sem,h1]) ⟨rfl,v,hx,rfl⟩ ?_ (by simpa[argH,getN] using h3) (by simp only[go_sem])
  simp only[go_sem,h2,h4,h5,h6]
 by_cases h0:hd=[117,112]
 ·rw[if_pos h0]
  simp only[ic26,go_sem]
  with_reducible repeat' (first|refine br ?_ ?_<;>intro h e<;>(try simp only[e,go_sem,eq_true h0,getD_mp hz0,hg0,Int.reduceToNat,hi0])<;>clear e|rw[i64w (by omega)]|refine sd ?_<;>try simp only[go_sem,eq_true h0,getD_mp hz0,hg0,Int.reduceToNat,hi0]|(first|refine cr (f1 ..) ?_|refine cr (f2 ..) ?_|refine cr (f3 ..) ?_)<;>try simp only[go_sem,eq_true h0,getD_mp hz0,hg0,Int.reduceToNat,hi0]|fail)
  refine callN (x45 w ⟨1,0,a,b,.zero⟩ hw.x (by simp[Pk.zero])) [0,1,2,3] [] true 27 4 (by simp only[go_sem,Pk.zero,E.zero];first|done|simp[Pk.zero,E.zero]) (by simp only[go_sem];first|done|simp) (by simp) (by simp) (by simp) ?_ ?_ ?_
  ·rintro _ _ ⟨rfl,v',hv',rfl⟩
   exact⟨by simp,by simp,.inl rfl,fun i hi=>by obtain rfl:i=0:=(by omega);simp[chH,stepOk]⟩
  ·intro i hi
   rcases(show i=0∨i=1∨i=2∨i=3 by omega) with rfl|rfl|rfl|rfl<;>simp only[go_sem]
  rintro _ _ ⟨rfl,v,hv,rfl⟩
  simp only[go_sem]
  with_reducible repeat' (first|refine br ?_ ?_<;>intro h e<;>(try simp only[e,go_sem])<;>clear e|rw[i64w (by omega)]|refine sd ?_<;>try simp only[go_sem]|fail)
  exact fin _ _ v _ _ 102701 102702 102703 hv (by simp only[go_sem]) (by simp only[go_sem]) (by decide) (by simp only[go_sem]) (by simp only[go_sem]) (by simp only[go_sem])
 rw[if_neg h0]
 have n0:=h0
 clear h0
 by_cases h1:hd=[100,111,119,110]
 ·rw[if_pos h1]
  simp only[ic26,go_sem]
  with_reducible repeat' (first|refine br ?_ ?_<;>intro h e<;>(try simp only[e,go_sem,eq_false n0,eq_true h1,getD_mp hz0,hg0,Int.reduceToNat,hi0])<;>clear e|rw[i64w (by omega)]|refine sd ?_<;>try simp only[go_sem,eq_false n0,eq_true h1,getD_mp hz0,hg0,Int.reduceToNat,hi0]|(first|refine cr (f1 ..) ?_|refine cr (f2 ..) ?_|refine cr (f3 ..) ?_)<;>try simp only[go_sem,eq_false n0,eq_true h1,getD_mp hz0,hg0,Int.reduceToNat,hi0]|fail)
  refine callN (x45 w ⟨2,0,a,b,.zero⟩ hw.x (by simp[Pk.zero])) [0,1,2,3] [] true 36 4 (by simp only[go_sem,Pk.zero,E.zero];first|done|simp[Pk.zero,E.zero]) (by simp only[go_sem];first|done|simp) (by simp) (by simp) (by simp) ?_ ?_ ?_
  ·rintro _ _ ⟨rfl,v',hv',rfl⟩
   exact⟨by simp,by simp,.inl rfl,fun i hi=>by obtain rfl:i=0:=(by omega);simp[chH,stepOk]⟩
  ·intro i hi
   rcases(show i=0∨i=1∨i=2∨i=3 by omega) with rfl|rfl|rfl|rfl<;>simp only[go_sem]
  rintro _ _ ⟨rfl,v,hv,rfl⟩
  simp only[go_sem]
  with_reducible repeat' (first|refine br ?_ ?_<;>intro h e<;>(try simp only[e,go_sem])<;>clear e|rw[i64w (by omega)]|refine sd ?_<;>try simp only[go_sem]|fail)
  exact fin _ _ v _ _ 103601 103602 103603 hv (by simp only[go_sem]) (by simp only[go_sem]) (by decide) (by simp only[go_sem]) (by simp only[go_sem]) (by simp only[go_sem])
 rw[if_neg h1]
 have n1:=h1
 clear h1
 by_cases h2:hd=[98,114,105,110,103]
 ·rw[if_pos h2]
  simp only[ic26,go_sem]
  with_reducible repeat' (first|refine br ?_ ?_<;>intro h e<;>(try simp only[e,go_sem,eq_false n0,eq_false n1,eq_true h2,getD_mp hz0,hg0,Int.reduceToNat,hi0])<;>clear e|rw[i64w (by omega)]|refine sd ?_<;>try simp only[go_sem,eq_false n0,eq_false n1,eq_true h2,getD_mp hz0,hg0,Int.reduceToNat,hi0]|(first|refine cr (f1 ..) ?_|refine cr (f2 ..) ?_|refine cr (f3 ..) ?_)<;>try simp only[go_sem,eq_false n0,eq_false n1,eq_true h2,getD_mp hz0,hg0,Int.reduceToNat,hi0]|fail)
  refine callN (x45 w ⟨3,a,0,0,.zero⟩ hw.x (by simp[Pk.zero])) [0,1,2,3] [] true 43 4 (by simp only[go_sem,Pk.zero,E.zero];first|done|simp[Pk.zero,E.zero]) (by simp only[go_sem];first|done|simp) (by simp) (by simp) (by simp) ?_ ?_ ?_
  ·rintro _ _ ⟨rfl,v',hv',rfl⟩
   exact⟨by simp,by simp,.inl rfl,fun i hi=>by obtain rfl:i=0:=(by omega);simp[chH,stepOk]⟩
  ·intro i hi
   rcases(show i=0∨i=1∨i=2∨i=3 by omega) with rfl|rfl|rfl|rfl<;>simp only[go_sem]
  rintro _ _ ⟨rfl,v,hv,rfl⟩
  simp only[go_sem]
  with_reducible repeat' (first|refine br ?_ ?_<;>intro h e<;>(try simp only[e,go_sem])<;>clear e|rw[i64w (by omega)]|refine sd ?_<;>try simp only[go_sem]|fail)
  exact fin _ _ v _ _ 104301 104302 104303 hv (by simp only[go_sem]) (by simp only[go_sem]) (by decide) (by simp only[go_sem]) (by simp only[go_sem]) (by simp only[go_sem])
 rw[if_neg h2]
 have n2:=h2
 clear h2
 by_cases h3:hd=[108,111,115,101]
 ·rw[if_pos h3]
  simp only[ic26,go_sem]
  with_reducible repeat' (first|refine br ?_ ?_<;>intro h e<;>(try simp only[e,go_sem,eq_false n0,eq_false n1,eq_false n2,eq_true h3,getD_mp hz0,hg0,Int.reduceToNat,hi0])<;>clear e|rw[i64w (by omega)]|refine sd ?_<;>try simp only[go_sem,eq_false n0,eq_false n1,eq_false n2,eq_true h3,getD_mp hz0,hg0,Int.reduceToNat,hi0]|(first|refine cr (f1 ..) ?_|refine cr (f2 ..) ?_|refine cr (f3 ..) ?_)<;>try simp only[go_sem,eq_false n0,eq_false n1,eq_false n2,eq_true h3,getD_mp hz0,hg0,Int.reduceToNat,hi0]|fail)
  refine callN (x45 w ⟨4,a,0,0,.zero⟩ hw.x (by simp[Pk.zero])) [0,1,2,3] [] true 50 4 (by simp only[go_sem,Pk.zero,E.zero];first|done|simp[Pk.zero,E.zero]) (by simp only[go_sem];first|done|simp) (by simp) (by simp) (by simp) ?_ ?_ ?_
  ·rintro _ _ ⟨rfl,v',hv',rfl⟩
   exact⟨by simp,by simp,.inl rfl,fun i hi=>by obtain rfl:i=0:=(by omega);simp[chH,stepOk]⟩
  ·intro i hi
   rcases(show i=0∨i=1∨i=2∨i=3 by omega) with rfl|rfl|rfl|rfl<;>simp only[go_sem]
  rintro _ _ ⟨rfl,v,hv,rfl⟩
  simp only[go_sem]
  with_reducible repeat' (first|refine br ?_ ?_<;>intro h e<;>(try simp only[e,go_sem])<;>clear e|rw[i64w (by omega)]|refine sd ?_<;>try simp only[go_sem]|fail)
  exact fin _ _ v _ _ 105001 105002 105003 hv (by simp only[go_sem]) (by simp only[go_sem]) (by decide) (by simp only[go_sem]) (by simp only[go_sem]) (by simp only[go_sem])
 rw[if_neg h3]
 have n3:=h3
 clear h3
 by_cases h4:hd=[116,119,105,99,101]
 ·rw[if_pos h4]
  simp only[ic26,go_sem]
  with_reducible repeat' (first|refine br ?_ ?_<;>intro h e<;>(try simp only[e,go_sem,eq_false n0,eq_false n1,eq_false n2,eq_false n3,eq_true h4,getD_mp hz0,hg0,Int.reduceToNat,hi0])<;>clear e|rw[i64w (by omega)]|refine sd ?_<;>try simp only[go_sem,eq_false n0,eq_false n1,eq_false n2,eq_false n3,eq_true h4,getD_mp hz0,hg0,Int.reduceToNat,hi0]|(first|refine cr (f1 ..) ?_|refine cr (f2 ..) ?_|refine cr (f3 ..) ?_)<;>try simp only[go_sem,eq_false n0,eq_false n1,eq_false n2,eq_false n3,eq_true h4,getD_mp hz0,hg0,Int.reduceToNat,hi0]|fail)
  refine callN (x45 w ⟨5,a,0,0,.zero⟩ hw.x (by simp[Pk.zero])) [0,1,2,3] [] true 57 4 (by simp only[go_sem,Pk.zero,E.zero];first|done|simp[Pk.zero,E.zero]) (by simp only[go_sem];first|done|simp) (by simp) (by simp) (by simp) ?_ ?_ ?_
  ·rintro _ _ ⟨rfl,v',hv',rfl⟩
   exact⟨by simp,by simp,.inl rfl,fun i hi=>by obtain rfl:i=0:=(by omega);simp[chH,stepOk]⟩
  ·intro i hi
   rcases(show i=0∨i=1∨i=2∨i=3 by omega) with rfl|rfl|rfl|rfl<;>simp only[go_sem]
  rintro _ _ ⟨rfl,v,hv,rfl⟩
  simp only[go_sem]
  with_reducible repeat' (first|refine br ?_ ?_<;>intro h e<;>(try simp only[e,go_sem])<;>clear e|rw[i64w (by omega)]|refine sd ?_<;>try simp only[go_sem]|fail)
  exact fin _ _ v _ _ 105701 105702 105703 hv (by simp only[go_sem]) (by simp only[go_sem]) (by decide) (by simp only[go_sem]) (by simp only[go_sem]) (by simp only[go_sem])
 rw[if_neg h4]
 have n4:=h4
 clear h4
 by_cases h5:hd=[102,111,114,103,101]
 ·rw[if_pos h5]
  simp only[ic26,go_sem]
  obtain⟨t,htd⟩:∃t,t=(if([102,111,114,103,101,32]:B).isPrefixOf line then line.drop ([102,111,114,103,101,32]:B).length else line):=⟨_,rfl⟩
  have f4:=c48 line [102,111,114,103,101,32] (by omega) (by simp)
  rw[←htd] at f4
  have htl:t.length≤1000:=by rw[htd];split<;>first|omega|(simp only[List.length_drop];omega)
  have hrd:pktRead t=pktRead (line.drop 6):=by rw[htd];exact forge_trim (by rw[hc,←hws,h5])
  have f5:=c47 t (by omega)
  have hpt:=pktRead_tl t (by omega)
  rw[←hrd]
  cases hp:pktRead t with
  | none =>
    rw[hp] at f5
    simp only[Option.getD_none,Option.isSome_none,Pk.zero,E.zero] at f5
    simp only[Option.getD_none,wDo_none]
    with_reducible repeat' (first|refine br ?_ ?_<;>intro h e<;>(try simp only[e,go_sem,eq_false n0,eq_false n1,eq_false n2,eq_false n3,eq_false n4,eq_true h5,getD_mp hz0,hg0,Int.reduceToNat,hi0])<;>clear e|rw[i64w (by omega)]|refine sd ?_<;>try simp only[go_sem,eq_false n0,eq_false n1,eq_false n2,eq_false n3,eq_false n4,eq_true h5,getD_mp hz0,hg0,Int.reduceToNat,hi0]|(first|refine cr (f1 ..) ?_|refine cr (f4 ..) ?_|refine cr (f5 ..) ?_)<;>try simp only[go_sem,eq_false n0,eq_false n1,eq_false n2,eq_false n3,eq_false n4,eq_true h5,getD_mp hz0,hg0,Int.reduceToNat,hi0]|fail)
    exact fin _ _ w _ _ 1 2 3 rfl (by simp only[go_sem]) (by simp only[go_sem]) (by decide) (by simp only[go_sem]) (by simp only[go_sem]) (by simp only[go_sem])
  | some p =>
    rw[hp] at f5 hpt
    simp only[Option.getD_some,Option.isSome_some] at f5 hpt ⊢
    with_reducible repeat' (first|refine br ?_ ?_<;>intro h e<;>(try simp only[e,go_sem,eq_false n0,eq_false n1,eq_false n2,eq_false n3,eq_false n4,eq_true h5,getD_mp hz0,hg0,Int.reduceToNat,hi0])<;>clear e|rw[i64w (by omega)]|refine sd ?_<;>try simp only[go_sem,eq_false n0,eq_false n1,eq_false n2,eq_false n3,eq_false n4,eq_true h5,getD_mp hz0,hg0,Int.reduceToNat,hi0]|(first|refine cr (f1 ..) ?_|refine cr (f4 ..) ?_|refine cr (f5 ..) ?_)<;>try simp only[go_sem,eq_false n0,eq_false n1,eq_false n2,eq_false n3,eq_false n4,eq_true h5,getD_mp hz0,hg0,Int.reduceToNat,hi0]|fail)
    refine callN (x45 w ⟨6,0,0,0,p⟩ hw.x (by simp only;omega)) [0,1,2,3] [] true 70 4 (by simp only[go_sem,Pk.zero,E.zero];first|done|simp[Pk.zero,E.zero]) (by simp only[go_sem];first|done|simp) (by simp) (by simp) (by simp) ?_ ?_ ?_
    ·rintro _ _ ⟨rfl,v',hv',rfl⟩
     exact⟨by simp,by simp,.inl rfl,fun i hi=>by obtain rfl:i=0:=(by omega);simp[chH,stepOk]⟩
    ·intro i hi
     rcases(show i=0∨i=1∨i=2∨i=3 by omega) with rfl|rfl|rfl|rfl<;>simp only[go_sem]
    rintro _ _ ⟨rfl,v,hv,rfl⟩
    simp only[go_sem]
    with_reducible repeat' (first|refine br ?_ ?_<;>intro h e<;>(try simp only[e,go_sem])<;>clear e|rw[i64w (by omega)]|refine sd ?_<;>try simp only[go_sem]|fail)
    exact fin _ _ v _ _ 107001 107002 107003 hv (by simp only[go_sem]) (by simp only[go_sem]) (by decide) (by simp only[go_sem]) (by simp only[go_sem]) (by simp only[go_sem])
 rw[if_neg h5]
 have n5:=h5
 clear h5
 by_cases h6:hd=[99,97,108,109]
 ·rw[if_pos h6]
  simp only[ic26,go_sem]
  with_reducible repeat' (first|refine br ?_ ?_<;>intro h e<;>(try simp only[e,go_sem,eq_false n0,eq_false n1,eq_false n2,eq_false n3,eq_false n4,eq_false n5,eq_true h6,getD_mp hz0,hg0,Int.reduceToNat,hi0])<;>clear e|rw[i64w (by omega)]|refine sd ?_<;>try simp only[go_sem,eq_false n0,eq_false n1,eq_false n2,eq_false n3,eq_false n4,eq_false n5,eq_true h6,getD_mp hz0,hg0,Int.reduceToNat,hi0]|(first|refine cr (f1 ..) ?_|refine cr (f2 ..) ?_|refine cr (f3 ..) ?_)<;>try simp only[go_sem,eq_false n0,eq_false n1,eq_false n2,eq_false n3,eq_false n4,eq_false n5,eq_true h6,getD_mp hz0,hg0,Int.reduceToNat,hi0]|fail)
  refine callN (c49 w hw.x) [0,1,2,3] [] true 74 4 (by simp only[go_sem,Pk.zero,E.zero];first|done|simp[Pk.zero,E.zero]) (by simp only[go_sem];first|done|simp) (by simp) (by simp) (by simp) ?_ ?_ ?_
  ·rintro _ _ ⟨rfl,v',hv',rfl⟩
   exact⟨by simp,by simp,.inl rfl,fun i hi=>by obtain rfl:i=0:=(by omega);simp[chH,stepOk]⟩
  ·intro i hi
   rcases(show i=0∨i=1∨i=2∨i=3 by omega) with rfl|rfl|rfl|rfl<;>simp only[go_sem]
  rintro _ _ ⟨rfl,v,hv,rfl⟩
  simp only[go_sem]
  with_reducible repeat' (first|refine br ?_ ?_<;>intro h e<;>(try simp only[e,go_sem])<;>clear e|rw[i64w (by omega)]|refine sd ?_<;>try simp only[go_sem]|fail)
  exact fin _ _ v _ _ 107401 107402 107403 hv (by simp only[go_sem]) (by simp only[go_sem]) (by decide) (by simp only[go_sem]) (by simp only[go_sem]) (by simp only[go_sem])
 rw[if_neg h6]
 have n6:=h6
 clear h6
 by_cases h7:hd=[109,97,112]
 ·rw[if_pos h7]
  simp only[ic26,go_sem]
  have hel:∀p∈w.door.map,((fun p:Pair=>dec p.port++(32::p.ins.text)) p).length≤200:=fun p hp=>by
   have l1:=dec_le2 p.port;have l2:=text_le5 p.ins;simp;omega
  obtain⟨LL,hLL⟩:∃LL:Nat→List B,LL=fun k=>(w.door.map.take k).map (fun p:Pair=>dec p.port++(32::p.ins.text)):=⟨_,rfl⟩
  have hL0:LL 0=[]:=by rw[hLL];simp
  have hLn:LL w.door.map.length=w.door.map.map (fun p:Pair=>dec p.port++(32::p.ins.text)):=by rw[hLL];simp
  have hLl:∀k,(LL k).length≤20:=fun k=>by rw[hLL];simp only[List.length_map,List.length_take];omega
  have hLs:∀k (h:k<w.door.map.length),LL (k+1)=LL k++[(fun p:Pair=>dec p.port++(32::p.ins.text)) w.door.map[k]]:=fun k h=>by
   rw[hLL]
   simp only
   rw[List.take_add_one,zE h,List.map_append]
   rfl
  have hLw:(LL w.door.map.length).length=w.door.map.length:=by rw[hLn,List.length_map]
  clear hLL
  with_reducible repeat' (first|refine br ?_ ?_<;>intro h e<;>(try simp only[e,go_sem,eq_false n0,eq_false n1,eq_false n2,eq_false n3,eq_false n4,eq_false n5,eq_false n6,eq_true h7,getD_mp hz0,hg0,Int.reduceToNat,hi0])<;>clear e|rw[i64w (by omega)]|refine sd ?_<;>try simp only[go_sem,eq_false n0,eq_false n1,eq_false n2,eq_false n3,eq_false n4,eq_false n5,eq_false n6,eq_true h7,getD_mp hz0,hg0,Int.reduceToNat,hi0]|(first|refine cr (f1 ..) ?_|refine cr (f2 ..) ?_|refine cr (f3 ..) ?_)<;>try simp only[go_sem,eq_false n0,eq_false n1,eq_false n2,eq_false n3,eq_false n4,eq_false n5,eq_false n6,eq_true h7,getD_mp hz0,hg0,Int.reduceToNat,hi0]|fail)
  refine loopN (fun k:Nat=>⟨getL [(0,.pv 0 0),(8,.own 1077 (LL k).length),(82,.sl 3 (w.door.map.map Pair.row)),(83,.int .i64 w.door.map.length),(84,.int .i64 (k:Int))],getH [(0,.var 41 [.own 2 w.convs.length,.sl 3 (w.door.map.map Pair.row),.own 1 w.door.flows.length,.own 3 w.nets.length]),(1,.arr 181 8 (w.door.flows.map Flw.row)),(2,.arr 47 10 (w.convs.map Conv.row)),(3,.arr 70 7 (w.nets.map Pk.row)),(1077,.arr 9 1 ((LL k).map fun x=>[.str x]))]⟩) (fun k=>w.door.map.length - k) (fun k=>k≤w.door.map.length) 0 (by rw[hL0];exact(leQ [])) (Nat.zero_le _) ?_
  intro k hk
  simp only[go_sem]
  by_cases hkl:(k:Int)<w.door.map.length
  ·have hil:k<w.door.map.length:=by omega
   have hg:w.door.map.getD k default=w.door.map[k]:=by simp[List.getD,hil]
   have hm:=List.getElem_mem hil
   have hst:=hLs k hil
   have hJl:=hLl k
   try simp only at hst
   have hpo:=(mapOk_at hmk hil).1
   have g1:=c27 w.door.map[k].port (by omega)
   have g2:=c50 w.door.map[k].ins.a w.door.map[k].ins.p
   have l1:=dec_le2 w.door.map[k].port
   have l2:=text_le5 w.door.map[k].ins
   rw[show E.text ⟨w.door.map[k].ins.a,w.door.map[k].ins.p⟩=w.door.map[k].ins.text from rfl] at g2
   generalize w.door.map[k]=p at *
   generalize dec p.port=x at *
   generalize p.ins.text=y at *
   simp only[eq_true hkl,go_sem]
   with_reducible repeat' (first|rw[i64w (by omega)];try simp only[go_sem,getD_mp hil,hg,zA,zC,zN,zZ,zP,zU]|refine br ?_ ?_<;>intro h e<;>(try simp only[e,go_sem,getD_mp hil,hg,zA,zC,zN,zZ,zP,zU])<;>clear e|refine sd ?_<;>try simp only[go_sem,getD_mp hil,hg,zA,zC,zN,zZ,zP,zU]|(first|refine cr (g1 ..) ?_|refine cr (g2 ..) ?_)<;>try simp only[go_sem,getD_mp hil,hg,zA,zC,zN,zZ,zP,zU]|fail)
   all_goals first
    | (refine⟨k+1,by omega,by omega, ?_⟩;simp only[hst];refine leN [(1077,1098)] ?_ ?_ (by simp[getN]) (by simp only[go_sem])<;>simp only[go_sem]<;>(try simp);done)
    | trace_state
  ·simp only[eq_false hkl,go_sem]
   obtain rfl:k=w.door.map.length:=by omega
   have fc:=o51 (LL w.door.map.length) (hLl _) (fun x hx=>by
    rw[hLn] at hx
    obtain⟨p,hp,rfl⟩:=List.mem_map.1 hx
    exact Nat.le_trans (hel p hp) (by decide))
   rw[hLw] at fc ⊢
   rw[hLn] at fc ⊢
   with_reducible repeat' (first|refine br ?_ ?_<;>intro h e<;>(try simp only[e,go_sem])<;>clear e|rw[i64w (by omega)]|refine sd ?_<;>try simp only[go_sem]|fail)
   refine callU fc [1077] [] 101 0 (by simp only[go_sem];first|done|simp) (by simp only[go_sem];first|done|simp) (by simp) (by simp) (by rintro _ _ ⟨rfl,rfl⟩;simp) (by intro i hi;omega) ?_
   rintro _ _ ⟨rfl,rfl⟩
   simp only[go_sem]
   with_reducible repeat' (first|refine br ?_ ?_<;>intro h e<;>(try simp only[e,go_sem])<;>clear e|rw[i64w (by omega)]|refine sd ?_<;>try simp only[go_sem]|fail)
   exact fin _ _ w _ _ 1 2 3 rfl (by simp only[go_sem]) (by simp only[go_sem]) (by decide) (by simp only[go_sem]) (by simp only[go_sem]) (by simp only[go_sem])
 rw[if_neg h7]
 have n7:=h7
 clear h7
 by_cases h8:hd=[110,101,116,115]
 ·rw[if_pos h8]
  simp only[ic26,go_sem]
  have hel:∀p∈w.nets,(pktText p).length≤200:=fun p hp=>by
   have l1:=pktText_len p;have l2:=(hw.net p hp).pk.len;omega
  obtain⟨LL,hLL⟩:∃LL:Nat→List B,LL=fun k=>(w.nets.take k).map pktText:=⟨_,rfl⟩
  have hL0:LL 0=[]:=by rw[hLL];simp
  have hLn:LL w.nets.length=w.nets.map pktText:=by rw[hLL];simp
  have hLl:∀k,(LL k).length≤20:=fun k=>by rw[hLL];simp only[List.length_map,List.length_take];omega
  have hLs:∀k (h:k<w.nets.length),LL (k+1)=LL k++[pktText w.nets[k]]:=fun k h=>by
   rw[hLL]
   simp only
   rw[List.take_add_one,zE h,List.map_append]
   rfl
  have hLw:(LL w.nets.length).length=w.nets.length:=by rw[hLn,List.length_map]
  clear hLL
  with_reducible repeat' (first|refine br ?_ ?_<;>intro h e<;>(try simp only[e,go_sem,eq_false n0,eq_false n1,eq_false n2,eq_false n3,eq_false n4,eq_false n5,eq_false n6,eq_false n7,eq_true h8,getD_mp hz0,hg0,Int.reduceToNat,hi0])<;>clear e|rw[i64w (by omega)]|refine sd ?_<;>try simp only[go_sem,eq_false n0,eq_false n1,eq_false n2,eq_false n3,eq_false n4,eq_false n5,eq_false n6,eq_false n7,eq_true h8,getD_mp hz0,hg0,Int.reduceToNat,hi0]|(first|refine cr (f1 ..) ?_|refine cr (f2 ..) ?_|refine cr (f3 ..) ?_)<;>try simp only[go_sem,eq_false n0,eq_false n1,eq_false n2,eq_false n3,eq_false n4,eq_false n5,eq_false n6,eq_false n7,eq_true h8,getD_mp hz0,hg0,Int.reduceToNat,hi0]|fail)
  refine loopN (fun k:Nat=>⟨getL [(0,.pv 0 0),(11,.own 1104 (LL k).length),(108,.own 3 w.nets.length),(109,.int .i64 w.nets.length),(110,.int .i64 (k:Int))],getH [(0,.var 41 [.own 2 w.convs.length,.sl 3 (w.door.map.map Pair.row),.own 1 w.door.flows.length,.own 3 w.nets.length]),(1,.arr 181 8 (w.door.flows.map Flw.row)),(2,.arr 47 10 (w.convs.map Conv.row)),(3,.arr 70 7 (w.nets.map Pk.row)),(1104,.arr 9 1 ((LL k).map fun x=>[.str x]))]⟩) (fun k=>w.nets.length - k) (fun k=>k≤w.nets.length) 0 (by rw[hL0];exact(leQ [])) (Nat.zero_le _) ?_
  intro k hk
  simp only[go_sem]
  by_cases hkl:(k:Int)<w.nets.length
  ·have hil:k<w.nets.length:=by omega
   have hg:w.nets.getD k default=w.nets[k]:=by simp[List.getD,hil]
   have hm:=List.getElem_mem hil
   have hst:=hLs k hil
   have hJl:=hLl k
   try simp only at hst
   have l1:=pktText_len w.nets[k]
   have l2:=(hw.net _ hm).pk.len
   have g1:=c52 w.nets[k] (by omega)
   generalize w.nets[k]=p at *
   generalize pktText p=x at *
   simp only[eq_true hkl,go_sem]
   with_reducible repeat' (first|rw[i64w (by omega)];try simp only[go_sem,getD_mp hil,hg,zA,zC,zN,zZ,zP,zU]|refine br ?_ ?_<;>intro h e<;>(try simp only[e,go_sem,getD_mp hil,hg,zA,zC,zN,zZ,zP,zU])<;>clear e|refine sd ?_<;>try simp only[go_sem,getD_mp hil,hg,zA,zC,zN,zZ,zP,zU]|(first|refine cr (g1 ..) ?_)<;>try simp only[go_sem,getD_mp hil,hg,zA,zC,zN,zZ,zP,zU]|fail)
   all_goals first
    | (refine⟨k+1,by omega,by omega, ?_⟩;simp only[hst];refine leN [(1104,1118)] ?_ ?_ (by simp[getN]) (by simp only[go_sem])<;>simp only[go_sem]<;>(try simp);done)
    | trace_state
  ·simp only[eq_false hkl,go_sem]
   obtain rfl:k=w.nets.length:=by omega
   have fc:=o51 (LL w.nets.length) (hLl _) (fun x hx=>by
    rw[hLn] at hx
    obtain⟨p,hp,rfl⟩:=List.mem_map.1 hx
    exact Nat.le_trans (hel p hp) (by decide))
   rw[hLw] at fc ⊢
   rw[hLn] at fc ⊢
   with_reducible repeat' (first|refine br ?_ ?_<;>intro h e<;>(try simp only[e,go_sem])<;>clear e|rw[i64w (by omega)]|refine sd ?_<;>try simp only[go_sem]|fail)
   refine callU fc [1104] [] 121 0 (by simp only[go_sem];first|done|simp) (by simp only[go_sem];first|done|simp) (by simp) (by simp) (by rintro _ _ ⟨rfl,rfl⟩;simp) (by intro i hi;omega) ?_
   rintro _ _ ⟨rfl,rfl⟩
   simp only[go_sem]
   with_reducible repeat' (first|refine br ?_ ?_<;>intro h e<;>(try simp only[e,go_sem])<;>clear e|rw[i64w (by omega)]|refine sd ?_<;>try simp only[go_sem]|fail)
   exact fin _ _ w _ _ 1 2 3 rfl (by simp only[go_sem]) (by simp only[go_sem]) (by decide) (by simp only[go_sem]) (by simp only[go_sem]) (by simp only[go_sem])
 rw[if_neg h8]
 have n8:=h8
 clear h8
 simp only[ic26,go_sem]
 with_reducible repeat' (first|refine br ?_ ?_<;>intro h e<;>(try simp only[e,go_sem,eq_false n0,eq_false n1,eq_false n2,eq_false n3,eq_false n4,eq_false n5,eq_false n6,eq_false n7,eq_false n8,getD_mp hz0,hg0,Int.reduceToNat,hi0])<;>clear e|rw[i64w (by omega)]|refine sd ?_<;>try simp only[go_sem,eq_false n0,eq_false n1,eq_false n2,eq_false n3,eq_false n4,eq_false n5,eq_false n6,eq_false n7,eq_false n8,getD_mp hz0,hg0,Int.reduceToNat,hi0]|(first|refine cr (f1 ..) ?_|refine cr (f2 ..) ?_|refine cr (f3 ..) ?_)<;>try simp only[go_sem,eq_false n0,eq_false n1,eq_false n2,eq_false n3,eq_false n4,eq_false n5,eq_false n6,eq_false n7,eq_false n8,getD_mp hz0,hg0,Int.reduceToNat,hi0]|fail)
 exact fin _ _ w _ _ 1 2 3 rfl (by simp only[go_sem]) (by simp only[go_sem]) (by decide) (by simp only[go_sem]) (by simp only[go_sem]) (by simp only[go_sem])
def adr (u:Bool):V:=bif u then .pv 0 0 else .nilp
def byV (s:B):List (List V):=s.map fun b=>[.int .u8 (b.toNat:Int)]
def bldH (u:Bool) (s:B):List Hs:=[.var 50 [adr u,.own 1 s.length],.arr 5 1 (byV s)]
theorem bldLays240:Go.Proofs.Lays.n240 Tryz.prog bldRen:={ bldLays with }
theorem e43:entr Tryz.prog 43=true:=by kernel_rfl
theorem o43 (u:Bool) (s:B):FnP Tryz.prog G 43 2 (bldH u s) [.pv 0 0] (fun r o=>r=.tup []∧o=bldH true s) where
 en:=e43
 ne:=⟨_,_,rfl,rfl⟩
 run:=fun W ρ ext us hg hlt hno hng r hargs=>by
  obtain⟨p0,rfl,hd⟩:=us_one hargs
  have hB:BaseOk G ⟨W,blocks ρ (chH (bldH u s)),ext,2,ρ⟩:=⟨hlt,hno,hg,hng⟩
  have h0:chH (bldH u s) 0=.var 50 [adr u,.own 1 s.length]:=rfl
  have hp:p0=.pointer (some ⟨(ρ 0).blk,(ρ 0).off,none⟩):=by simpa only[Den,Den2,Den1,Den0,h0,Nat.add_zero] using hd
  have hch:=r.chunk 0
  rw[h0] at hch
  obtain⟨hnil,cs,hb,⟨hoff,hsz⟩,hcell⟩:=hch
  obtain⟨p,hp0,hp1,hpd⟩:=hcell 0 _ rfl
  obtain⟨v,hv0,hv1,hvd⟩:=hcell 1 _ rfl
  have hsz2:cs.size=2:=hsz.symm
  rw[hoff] at hp hp0 hv0
  subst hp
  have c0:W.cell? ⟨(ρ 0).blk,0,none⟩=some p:=by simpa[World.cell?,hb] using hp0
  have hsh:W.shape? (ρ 0).blk=some (50,2):=by simp[World.shape?,hb,hsz2]
  have hfz:W.frozen? ⟨(ρ 0).blk,0,none⟩=false:=by simp[World.frozen?,hb]
  have dtup:∀(w':World) (O:Nat→Prop) (h:Nat→Hs),Den w' O ρ h (.tup []) (.tuple #[]):=fun w' O h=>⟨[],rfl,rfl,fun j v x hv=>by simp at hv⟩
  cases u
  ·have hpn:p=.pointer none:=by
    have:Imm W (owns ⟨W,blocks ρ (chH (bldH false s)),ext,2,ρ⟩ ρ (chH (bldH false s))) .nilp p:=hpd
    cases this;rfl
   subst hpn
   refine(Any.Builder_copyCheck_fresh bldLays240 bldExtra.toX72 (ρ 0).blk W c0 hsh hfz).mono fun e w' ⟨he,hw⟩=>?_
   obtain⟨k1,k2,k3,k4,k5⟩:=setCells_frame (ρ 0).blk [.pointer (some ⟨(ρ 0).blk,0,none⟩)] 0 W
   obtain⟨cs',m1,m2,m3⟩:=setCells_block (ρ 0).blk 50 (0,0) [.pointer (some ⟨(ρ 0).blk,0,none⟩)] 0 W cs hb (by simp[hsz2])
   have hw':w'=W.setCells (ρ 0).blk 0 [.pointer (some ⟨(ρ 0).blk,0,none⟩)]:=hw
   rw[←hw'] at k1 k2 k3 k4 k5 m1
   have ht:=r.write hB (c:=0) (s:=.var 50 [.pv 0 0,.own 1 s.length]) (by rw[h0];rfl) hnil k1 k2 k3 k4 k5 (.inr (.inr ⟨rfl,.inr (.inl ⟨_,_,_,_,h0,rfl⟩)⟩)) fun O' h' hden himm=>by
    refine⟨hnil,cs',m1,⟨hoff,by simp[m2,hsz2]⟩,fun j x hx=>?_⟩
    rw[hoff,m3]
    match j,hx with
    | 0,hx =>
      cases hx
      refine⟨.pointer (some ⟨(ρ 0).blk,0,none⟩),by simp,rfl,hden _ _ ?_⟩
      simp only[Den1,Den0,h0,hoff,Nat.add_zero]
    | 1,hx =>
      cases hx
      exact⟨v,by simpa using hv0,hv1,hden _ _ hvd⟩
    | j+2,hx=>simp at hx
   have hup:upH (chH (bldH false s)) [(0,.var 50 [.pv 0 0,.own 1 s.length])]=chH (bldH true s):=by
    funext c
    match c with
    | 0=>rfl
    | 1=>rfl
    | c+2=>simp[upH,chH,bldH]
   have hr:=ht.rel
   rw[hup] at hr
   exact⟨_,_,_,ρ,he,⟨rfl,rfl⟩,hr,dtup _ _ _⟩
  ·have hps:p=.pointer (some ⟨(ρ 0).blk,0,none⟩):=by
    have:Den1 W (owns ⟨W,blocks ρ (chH (bldH true s)),ext,2,ρ⟩ ρ (chH (bldH true s))) ρ (chH (bldH true s)) (.pv 0 0) p:=hpd
    simpa only[Den1,Den0,h0,hoff,Nat.add_zero] using this
   subst hps
   refine(Any.Builder_copyCheck_used bldLays240 bldExtra.toX72 (ρ 0).blk W c0).mono fun e w' ⟨he,hw⟩=>?_
   subst hw
   exact⟨_,_,_,ρ,he,⟨rfl,rfl⟩,r,dtup _ _ _⟩
theorem byV_app (s t:B):byV (s++t)=byV s++byV t:=by simp[byV]
theorem byV_len (s:B):(byV s).length=s.length:=by simp[byV]
def ic25:IC:=sR [oP 4 (.mv (.c i0)),oP 5 (.mv (.c .nile))] (sR [mV 6 0,oP 7 (.call 43 [.t 6])] (sR [mV 8 0,mV 9 0,oP 10 (.nilc (.t 9)),fD 11 1 10,lD 12 1 11,mV 13 1,oP 14 (.aps 5 (.t 12) (.t 13)),oP 15 (.nilc (.t 8)),fD 16 1 15,nP (.sto 1 (.t 16) (.t 14))] (sR [mV 17 1,oP 18 (.lens (.t 17)),mV 4 18,oP 5 (.mv (.c .nile))] .ret)))
theorem dg25:Dg Tryz.prog 25 Tryz.f25 ic25 [(.t 4),(.t 5)]:=⟨Tryz.func25,by kernel_rfl,by kernel_rfl⟩
theorem o25 (u:Bool) (s t:B) (hl:s.length+t.length≤2000000):FnP Tryz.prog G 25 1 (bldH u s) [.pv 0 0,.str t] (fun r o=>r=.tup [.int .i64 (t.length:Int),.nile]∧o=bldH true (s++t)):=by
 refine mP dg25 Tryz.ntmps25 ⟨_,_,rfl,rfl⟩ ?_
 have hb:s.map (fun b=>[V.int .u8 (b.toNat:Int)])=byV s:=rfl
 have hb2:t.map (fun b=>[V.int .u8 (b.toNat:Int)])=byV t:=rfl
 cases u
 ·simp only[ic25,go_sem,bldH,adr,cond_true,cond_false]
  refine callN (o43 false s) [0,1] [] true 7 2 (by simp only[go_sem,bldH,adr,cond_true,cond_false];first|done|simp) (by simp only[go_sem,bldH,adr,cond_true,cond_false];first|done|simp) (by simp) (by simp) (by simp) ?_ ?_ ?_
  ·rintro _ _ ⟨rfl,rfl⟩
   exact⟨by simp[bldH],by simp[bldH],.inl rfl,fun i hi=>by rcases(show i=0∨i=1 by omega) with rfl|rfl<;>simp[chH,stepOk,bldH]⟩
  ·intro i hi;rcases(show i=0∨i=1 by omega) with rfl|rfl<;>simp only[go_sem]
  rintro _ _ ⟨rfl,rfl⟩
  simp only[go_sem,bldH,adr,cond_true,hb2]
  refine effG ⟨byV_len s,by rw[byV_len];exact hl⟩ ?_
  simp only[go_sem,byV_len]
  with_reducible repeat' (first|refine br ?_ ?_<;>intro h e<;>(try simp only[e,go_sem])<;>clear e|rw[i64w (by omega)]|refine sd ?_<;>try simp only[go_sem]|fail)
  refine retN (.tup [.int .i64 (t.length:Int),.nile]) (bldH true (s++t)) [(1,1014)] ?_ ⟨rfl,rfl⟩ ?_ (by simp[argH,getN,bldH]) (by simp only[go_sem,bldH,adr,cond_true])
  ·simp only[go_sem]
  ·simp only[go_sem,bldH,adr,cond_true,byV_app,zA]
   try simp
 ·simp only[ic25,go_sem,bldH,adr,cond_true,cond_false]
  refine callN (o43 true s) [0,1] [] true 7 2 (by simp only[go_sem,bldH,adr,cond_true,cond_false];first|done|simp) (by simp only[go_sem,bldH,adr,cond_true,cond_false];first|done|simp) (by simp) (by simp) (by simp) ?_ ?_ ?_
  ·rintro _ _ ⟨rfl,rfl⟩
   exact⟨by simp[bldH],by simp[bldH],.inl rfl,fun i hi=>by rcases(show i=0∨i=1 by omega) with rfl|rfl<;>simp[chH,stepOk,bldH]⟩
  ·intro i hi;rcases(show i=0∨i=1 by omega) with rfl|rfl<;>simp only[go_sem]
  rintro _ _ ⟨rfl,rfl⟩
  simp only[go_sem,bldH,adr,cond_true,hb2]
  refine effG ⟨byV_len s,by rw[byV_len];exact hl⟩ ?_
  simp only[go_sem,byV_len]
  with_reducible repeat' (first|refine br ?_ ?_<;>intro h e<;>(try simp only[e,go_sem])<;>clear e|rw[i64w (by omega)]|refine sd ?_<;>try simp only[go_sem]|fail)
  refine retN (.tup [.int .i64 (t.length:Int),.nile]) (bldH true (s++t)) [(1,1014)] ?_ ⟨rfl,rfl⟩ ?_ (by simp[argH,getN,bldH]) (by simp only[go_sem,bldH,adr,cond_true])
  ·simp only[go_sem]
  ·simp only[go_sem,bldH,adr,cond_true,byV_app,zA]
   try simp
set_option maxHeartbeats 2000000 in
set_option maxRecDepth 100000 in
theorem m28 (b g cap:Nat) (cur:Array Value) (p:Value) (l:List UInt8) (w:World) (h0:l≠[]) (hll:l.length≤2000000) (hcap:l.length≤cap)
 (hbk:w.heap[b]?=some (.cells #[p,.slice (some ⟨g,0,none⟩) l.length cap] 50 (0,0))) (hg:w.heap[g]?=some (.cells cur 5 (0,0))) (hcs:cur.size=cap)
 (hcell:∀j x,l[j]?=some x→w.cell? ⟨g,j,none⟩=some (.int .u8 x.toNat)) :
 Calls Tryz.prog 28 #[.pointer (some ⟨b,0,none⟩)] w fun e w'=>e=.returned (.string ⟨l.toArray⟩)∧w'=w.drew.freeze ⟨g,0,none⟩ l.length:=by
 have L:=Tryz.lays169
 have X:=Tryz.Builder_Extra_169
 have hl0:l.length≠0:=by simpa using h0
 have c1:w.drew.cell? ⟨b,1,none⟩=some (.slice (some ⟨g,0,none⟩) l.length cap):=by
  have:w.drew.heap[b]?=some (.cells #[p,.slice (some ⟨g,0,none⟩) l.length cap] 50 (0,0)):=hbk
  rw[Lib.cell_of_heap this];rfl
 have hSD:(Builtin.unsafeSliceData_ #[22] 89 #[.slice (some ⟨g,0,none⟩) l.length cap]).run Tryz.prog w.drew=.ok (.pointer (some ⟨g,0,none⟩)) w.drew :=
  Lib.run_unsafeSliceData_row _ _ _ _ _ _ (by omega)
 have hUS:(Builtin.unsafeString_ #[89,3] 9 #[.pointer (some ⟨g,0,none⟩),.int .i64 l.length]).run Tryz.prog w.drew=.ok (.string ⟨l.toArray⟩) (w.drew.freeze ⟨g,0,none⟩ l.length):=by
  refine Lib.run_unsafeString_row w.drew 89 3 9 5 L.t127 X.cellsByte g cur.size (by have hg':w.drew.heap[g]?=some (.cells cur 5 (0,0)):=hg;simp[World.shape?,hg']) l h0 (by omega) (by omega) ?_
  intro j x hx
  have h1:=hcell j x hx
  have h2:((⟨g,0,none⟩:Addr).add j)=⟨g,j,none⟩:=by
   cases j<;>simp[Addr.add]
  rw[h2]
  exact h1
 have mixed:=L.mixed
 have t72:=L.t72;have a72:=L.a72;have z72:=L.z72;have v72:=L.v72;have u72:=run_underlying L.t72
 have t70:=L.t70;have a70:=L.a70;have z70:=L.z70;have v70:=L.v70;have u70:=run_underlying L.t70
 have t37:=L.t37;have a37:=L.a37;have z37:=L.z37;have v37:=L.v37;have u37:=run_underlying L.t37
 have t127:=L.t127;have a127:=L.a127;have z127:=L.z127;have v127:=L.v127;have u127:=run_underlying L.t127
 have t3:=L.t3;have a3:=L.a3;have z3:=L.z3;have v3:=L.v3;have u3:=run_underlying L.t3
 have t9:=L.t9;have a9:=L.a9;have z9:=L.z9;have v9:=L.v9;have u9:=run_underlying L.t9
 have t5:=X.t5;have a5:=X.a5;have z5:=X.z5;have v5:=X.v5;have u5:=run_underlying X.t5
 go_enter Tryz.func28,Tryz.ntmps28
 go_wp2
 go_region_o
 all_goals(go_wp2;go_ret;exact⟨rfl,rfl⟩)
theorem e28:entr Tryz.prog 28=true:=by kernel_rfl
theorem o28 (s:B) (h0:s≠[]) (hl:s.length≤2000000):FnP Tryz.prog G 28 0 (bldH true s) [.pv 0 0] (fun r o=>r=.str s∧o=[]) where
 en:=e28
 ne:=⟨_,_,rfl,rfl⟩
 run:=fun W ρ ext us hg hlt hno hng r hargs=>by
  obtain⟨p0,rfl,hd⟩:=us_one hargs
  have h0':chH (bldH true s) 0=.var 50 [.pv 0 0,.own 1 s.length]:=rfl
  have h1':chH (bldH true s) 1=.arr 5 1 (byV s):=rfl
  have hp:p0=.pointer (some ⟨(ρ 0).blk,(ρ 0).off,none⟩):=by simpa only[Den,Den2,Den1,Den0,h0',Nat.add_zero] using hd
  have hch:=r.chunk 0
  rw[h0'] at hch
  obtain⟨hnil,cs,hb,⟨hoff,hsz⟩,hcell⟩:=hch
  obtain⟨p,hp0,hp1,hpd⟩:=hcell 0 _ rfl
  obtain⟨v,hv0,hv1,hvd⟩:=hcell 1 _ rfl
  have hsz2:cs.size=2:=hsz.symm
  rw[hoff] at hp hp0 hv0
  subst hp
  have hc1:=r.chunk 1
  rw[h1'] at hc1
  rcases hc1 with⟨_,hrn,_⟩|⟨hnil1,cs1,hb1,⟨_,hex⟩,hlc,hlen,hcells⟩
  ·exact absurd (List.map_eq_nil_iff.1 hrn) h0
  obtain⟨hoff1,hsz1⟩:=hex rfl
  rw[byV_len] at hlc
  have hv:v=.slice (some ⟨(ρ 1).blk,0,none⟩) s.length (ρ 1).cap:=by
   have:Den1 W (owns ⟨W,blocks ρ (chH (bldH true s)),ext,0,ρ⟩ ρ (chH (bldH true s))) ρ (chH (bldH true s)) (.own 1 s.length) v:=hvd
   simp only[Den1,Den0,h1'] at this
   rw[this]
   simp[VL.Loc.sl,VL.Loc.addr,hnil1,hoff1]
  have hcs:cs=#[p,v]:=by
   apply Array.ext_getElem?
   intro i
   match i with
   | 0=>simpa using hp0
   | 1=>simpa using hv0
   | i+2=>rw[Array.getElem?_eq_none (by omega),Array.getElem?_eq_none (by simp)]
  subst hcs
  subst hv
  have hbyte:∀j x,s[j]?=some x→W.cell? ⟨(ρ 1).blk,j,none⟩=some (.int .u8 x.toNat):=fun j x hx=>by
   have hr:(byV s)[j]?=some [.int .u8 (x.toNat:Int)]:=by simp[byV,hx]
   obtain⟨u,a1,a2⟩:=hcells j _ 0 _ hr rfl
   rw[hoff1,show 0+(j*1+0)=j by omega] at a1
   have:u=.int .u8 (x.toNat:Int):=by cases a2;rfl
   subst this
   simpa[World.cell?,hb1] using a1
  refine(m28 (ρ 0).blk (ρ 1).blk (ρ 1).cap cs1 p s W h0 hl hlc hb hb1 hsz1 hbyte).mono fun e w' ⟨he,hw⟩=>?_
  have hfz:∀(x:World) (a:Addr) (n:Nat),(x.freeze a n).os=x.os∧(x.freeze a n).tape=x.tape∧(x.freeze a n).output=x.output∧(x.freeze a n).heap.size=x.heap.size∧∀k,k≠a.block→(x.freeze a n).heap[k]?=x.heap[k]?:=fun x a n=>by
   unfold World.freeze
   split
   ·exact⟨rfl,rfl,rfl,rfl,fun _ _=>rfl⟩
   ·exact⟨rfl,rfl,rfl,by simp,fun k hk=>by simp only[Array.getElem?_modify];rw[if_neg (fun e=>hk e.symm)]⟩
  obtain⟨f1,f2,f3,f4,f5⟩:=hfz W.drew ⟨(ρ 1).blk,0,none⟩ s.length
  rw[←hw] at f1 f2 f3 f4 f5
  have hc:chH []=fun _=>.fresh:=by funext x;simp[chH]
  refine⟨_,_,[],fun _=>default,he,⟨rfl,rfl⟩,⟨f1,f2,f3,Nat.le_of_eq f4.symm,fun b hb1' hb2=>f5 b fun hx=>hb2 ⟨1,rfl,hnil1,hx.symm⟩,fun c=>(by rw[hc];trivial),fun c hl=>(by rw[hc] at hl;cases hl),fun c c' hl=>(by rw[hc] at hl;cases hl),fun i hi=>absurd hi (Nat.not_lt_zero _)⟩,Imm.str _⟩
theorem cutB_no {s:B} (h:(10:UInt8)∉s):cutB s 10=(s,[],false):=by simp[cutB,h]
theorem cutB_yes {s:B} (h:(10:UInt8)∈s):∃l r,s=l++10::r∧cutB s 10=(l,r,true)∧cutAll 10 s=l::cutAll 10 r:=by
 obtain⟨us,bs,hs,hna⟩:=List.eq_append_cons_of_mem h
 subst hs
 have hall:∀x∈us,decide (x≠10)=true:=fun x hx=>decide_eq_true fun e=>hna (e▸hx)
 refine⟨us,bs,rfl, ?_, ?_⟩
 ·unfold cutB
  rw[if_pos h,List.takeWhile_append_of_pos hall,List.dropWhile_append_of_pos hall]
  simp
 ·rw[cutAll_app,cutAll_one hna]
  rfl
def ic15:IC:=sR [oP 6 (.mv (.c s0))] (sR [oP 15 (.build [i0,i0] [(0,(1,.c (.int .i64 1))),(1,(1,.c (.int .i64 1)))]),oP 16 (.build [i0,i0] [(0,(1,.c (.int .i64 4))),(1,(1,.c (.int .i64 4)))]),mV 17 0,mV 18 1,oP 19 (.build [i0,i0,i0,i0,s0,s0,i0,i0,s0,s0] [(0,(2,.t 15)),(2,(2,.t 16)),(4,(1,.t 17)),(5,(1,.t 18))]),oP 20 (.bsl 47 10 [.t 19]),oP 21 (.call 23 [.t 20]),mV 14 21,eX 22 14 0,eX 23 14 1,oP 7 (.alloc 41 [.nils,.nils,.nils,.nils]),nP (.sto 4 (.t 7) (.t 22)),mV 8 23] (.seq (.block 0 (sR [mV 25 8,oP 26 (.un .not (.t 25)),mV 24 26] (.cond (.t 24) (sR [oP 6 (.mv (.c (.str [110,111,32,119,111,114,108,100,10])))] .ret) (sR [mV 28 2,oP 29 (.lens (.t 28)),oP 30 (.bin .gtr (.t 29) (.c (.int .i64 600))),mV 27 30] (.cond (.t 27) (sR [oP 6 (.mv (.c (.str [116,111,111,32,108,111,110,103,10])))] .ret) .skip))))) (sR [oP 9 (.alloc 50 [.nilp,.nils])] (.seq (.block 1 (.loop (.block 2 (sR [mV 32 2,oP 33 (.call 24 [.t 32,.c (.str [10])]),mV 31 33,eX 34 31 0,eX 35 31 1,eX 36 31 2,mV 10 34,mV 11 35,mV 12 36] (.seq (sR [mV 37 12,oP 38 (.un .not (.t 37))] (.cond (.t 38) (.exit 1) .skip)) (sR [mV 39 10,oP 40 (.call 26 [.t 7,.t 39]),oP 41 (.call 25 [.t 9,.t 40])] (.reg [mV 42 11,mV 2 42]))))))) (sR [fD 43 0 7,lD 44 1 43,oP 45 (.iad 10 (.t 44) (.c i0)),lA 46 10 45,oP 13 (.alloc 47 [i0,i0,i0,i0,s0,s0,i0,i0,s0,s0]),nP (.sto 10 (.t 13) (.t 46))] (.seq (.drw [0,1,3,7,15,0,32,127,255,511] [(0,fD 47 6 13),(1,lD 48 1 47),(2,oP 49 (.call 27 [.t 48])),(3,oP 50 (.bin .add (.c (.str [117,112,32])) (.t 49))),(4,oP 51 (.bin .add (.t 50) (.c (.str [32])))),(5,fD 52 8 13),(6,lD 53 1 52),(7,bN 54 .add 51 53),(8,oP 55 (.bin .add (.t 54) (.c (.str [10])))),(9,oP 56 (.call 25 [.t 9,.t 55]))]) (.seq (.drw [0,1,3,7,15,0,32,127,255,511] [(0,fD 57 7 13),(1,lD 58 1 57),(2,oP 59 (.call 27 [.t 58])),(3,oP 60 (.bin .add (.c (.str [100,111,119,110,32])) (.t 59))),(4,oP 61 (.bin .add (.t 60) (.c (.str [32])))),(5,fD 62 9 13),(6,lD 63 1 62),(7,bN 64 .add 61 63),(8,oP 65 (.bin .add (.t 64) (.c (.str [10])))),(9,oP 66 (.call 25 [.t 9,.t 65]))]) (sR [oP 67 (.call 28 [.t 9]),mV 6 67] .ret))))))))
theorem dg15:Dg Tryz.prog 15 Tryz.f15 ic15 [(.t 6)]:=⟨Tryz.func15,by kernel_rfl,by kernel_rfl⟩
set_option maxHeartbeats 8000000 in
theorem c15 (up down text:B) (h1:up.length≤2000000) (h2:down.length≤2000000) (h3:text.length≤2000000):FnR Tryz.prog G 15 [.str up,.str down,.str text] (.str (linesRun up down text)):=by
 refine mF dg15 Tryz.ntmps15 ?_
 have hone:([lineConv up down]:List Conv).length=1:=rfl
 simp only[ic15,go_sem]
 with_reducible repeat' (first|refine br ?_ ?_<;>intro h e<;>(try simp only[e,go_sem])<;>clear e|rw[i64w (by omega)]|refine sd ?_<;>try simp only[go_sem]|fail)
 simp only[line_hlit]
 refine callN (c23 [lineConv up down] (by simp) (by simp[lineConv];omega)) [] [1020] false 21 1 (by simp only[go_sem];first|done|simp) trivial (by simp) (by simp) (by simp only[List.mem_singleton];rintro c rfl;exact⟨rfl,by simp⟩) ?_ ?_ ?_
 ·rintro _ _ (⟨w,h,rfl,rfl⟩|⟨h,rfl,rfl⟩)
  ·refine⟨by simp,by simp,.inr ⟨by simp[V.plain,V.plain2,V.plain1,V.plain0], ?_⟩,fun i hi=>by omega⟩
   intro s hs
   simp only[List.mem_singleton] at hs
   subst hs
   exact cvP _
  ·exact⟨by simp,by simp,.inr ⟨by simp[V.plain,V.plain2,V.plain1,V.plain0],by simp⟩,fun i hi=>by omega⟩
 ·intro i hi;obtain rfl:i=0:=(by omega);simp only[go_sem]
 rintro _ _ (⟨w,hw,rfl,rfl⟩|⟨hw,rfl,rfl⟩)
 rotate_left
 ·have e:linesRun up down text=[110,111,32,119,111,114,108,100,10]:=by simp only[linesRun,hw]
  rw[e]
  simp only[go_sem]
  with_reducible repeat' (first|refine br ?_ ?_<;>intro h e<;>(try simp only[e,go_sem])<;>clear e|rw[i64w (by omega)]|refine sd ?_<;>try simp only[go_sem]|fail)
 by_cases h6:(600:Int)<text.length
 ·have e:linesRun up down text=[116,111,111,32,108,111,110,103,10]:=by simp only[linesRun,hw];rw[if_pos (by omega)]
  rw[e]
  simp only[go_sem,eq_true h6]
  with_reducible repeat' (first|refine br ?_ ?_<;>intro h e<;>(try simp only[e,go_sem,eq_true h6])<;>clear e|rw[i64w (by omega)]|refine sd ?_<;>try simp only[go_sem,eq_true h6]|fail)
 have e:linesRun up down text=(linesDo w (cutAll 10 text).dropLast).2++linesEnd (linesDo w (cutAll 10 text).dropLast).1:=by simp only[linesRun,hw];rw[if_neg (by omega)]
 rw[e]
 clear e
 have hsi:=lines_calm hw []
 have hcon:=lines_one hw []
 obtain⟨_,_,hz,hn0⟩:=worldNew_is hw
 simp only[go_sem,eq_false h6]
 with_reducible repeat' (first|refine br ?_ ?_<;>intro h e<;>(try simp only[e,go_sem,eq_false h6])<;>clear e|rw[i64w (by omega)]|refine sd ?_<;>try simp only[go_sem,eq_false h6]|fail)
 refine loopN (fun a:B×M.World×B×Bool=>⟨getL [(2,.str a.1),(7,.pv 1007 0),(9,.pv 1009 0)],getH [(1007,.var 41 [.own 102100 a.2.1.convs.length,.sl 3 (a.2.1.door.map.map Pair.row),.own 200001 a.2.1.door.flows.length,.own 200003 a.2.1.nets.length]),(200001,.arr 181 8 (a.2.1.door.flows.map Flw.row)),(102100,.arr 47 10 (a.2.1.convs.map Conv.row)),(200003,.arr 70 7 (a.2.1.nets.map Pk.row)),(1009,.var 50 [bif a.2.2.2 then .pv 1009 0 else .nilp,.own 200009 a.2.2.1.length]),(200009,.arr 5 1 (byV a.2.2.1))]⟩)
  (fun a=>a.1.length) (fun a=>a.1.length≤text.length∧SI CK CN a.2.1∧a.2.1.convs.length=1∧a.2.2.1.length+2100*a.1.length≤2100*text.length∧linesDo w (cutAll 10 text).dropLast=((linesDo a.2.1 (cutAll 10 a.1).dropLast).1,a.2.2.1++(linesDo a.2.1 (cutAll 10 a.1).dropLast).2)) (text,w,[],false)
  (St.le_trans (nilOwn (row:=[.own 102100 w.convs.length,.nils,.nils,.nils]) 1007 200001 181 8 41 2 (by simp only[go_sem]) (by decide) (by simp only[go_sem]) rfl) (St.le_trans (nilOwn (row:=[.own 102100 w.convs.length,.nils,.own 200001 0,.nils]) 1007 200003 70 7 41 3 (by simp only[go_sem]) (by decide) (by simp only[go_sem,List.set_cons_succ,List.set_cons_zero]) rfl) (St.le_trans (nilOwn (row:=[.nilp,.nils]) 1009 200009 5 1 50 1 (by simp only[go_sem]) (by decide) (by simp only[go_sem,List.set_cons_succ,List.set_cons_zero]) rfl) (leN [] (by simp only[go_sem]) (by simp only[go_sem,hz,hn0,Door.zero,List.set_cons_succ,List.set_cons_zero,cond_false,byV,List.map_nil]) (by simp[getN]) (by simp only[go_sem]))))) ⟨Nat.le_refl _,hsi,hcon,by simp,by simp⟩ ?_
 intro⟨rest,v,out,u⟩ ⟨g1,g2,g3,g4,g5⟩
 simp only at g1 g2 g3 g4 g5
 have fc:=c24 rest 10 (by omega)
 by_cases h10:(10:UInt8)∈rest
 ·obtain⟨l,r,hr,hcb,hca⟩:=cutB_yes h10
  rw[hcb] at fc
  rw[hca] at g5
  have hrl:rest.length=l.length+(r.length+1):=by rw[hr];simp
  have hd:(l::cutAll 10 r).dropLast=l::(cutAll 10 r).dropLast:=by
   cases hq:cutAll 10 r with
   | nil=>exact absurd hq (cutAll_ne 10 r)
   | cons a b=>rfl
  rw[hd] at g5
  have hll:=lineDo_len g2.wi l
  have hsi2:=lineDo_si calm_step g2 l
  have hex:=(lineDo_ext v l).len
  have hj:linesDo v (l::(cutAll 10 r).dropLast)=((linesDo (lineDo v l).1 (cutAll 10 r).dropLast).1,(lineDo v l).2++(linesDo (lineDo v l).1 (cutAll 10 r).dropLast).2):=rfl
  rw[hj] at g5
  cases u
  ·simp only[go_sem,cond_false]
   with_reducible repeat' (first|refine br ?_ ?_<;>intro h e<;>(try simp only[e,go_sem])<;>clear e|rw[i64w (by omega)]|refine sd ?_<;>try simp only[go_sem]|(first|refine cr (fc ..) ?_)<;>try simp only[go_sem]|fail)
   refine callN (c26 v l g2.wi (by omega)) [1007,200001,102100,200003] [] true 40 4 (by simp only[go_sem];first|done|simp) (by simp only[go_sem];first|done|simp) (by simp) (by simp) (by simp) ?_ ?_ ?_
   ·rintro _ _ ⟨rfl,v',hv',rfl⟩
    exact⟨by simp,by simp,.inl rfl,fun i hi=>by obtain rfl:i=0:=(by omega);simp[chH,stepOk]⟩
   ·intro i hi
    rcases(show i=0∨i=1∨i=2∨i=3 by omega) with rfl|rfl|rfl|rfl<;>simp only[go_sem]
   rintro _ _ ⟨rfl,v',hv',rfl⟩
   simp only[go_sem]
   rw[←hv'] at hsi2 hex g5
   generalize (lineDo v l).2=s at *
   with_reducible repeat' (first|refine br ?_ ?_<;>intro h e<;>(try simp only[e,go_sem])<;>clear e|rw[i64w (by omega)]|refine sd ?_<;>try simp only[go_sem]|fail)
   refine callN (o25 false (out) (s) (by omega)) [1009,200009] [] true 41 2 (by simp only[go_sem,bldH,adr,cond_true,cond_false];first|done|(simp;done)|(simp;omega)) (by simp only[go_sem,bldH,adr,cond_true,cond_false];first|done|(simp;done)|(simp;omega)) (by simp) (by simp) (by simp) ?_ ?_ ?_
   ·rintro _ _ ⟨rfl,rfl⟩
    exact⟨by simp[bldH],by simp[bldH],.inl rfl,fun i hi=>by obtain rfl:i=0:=(by omega);simp[chH,stepOk,bldH]⟩
   ·intro i hi;rcases(show i=0∨i=1 by omega) with rfl|rfl<;>simp only[go_sem]
   rintro _ _ ⟨rfl,rfl⟩
   simp only[go_sem,bldH,adr,cond_true]
   with_reducible repeat' (first|refine br ?_ ?_<;>intro h e<;>(try simp only[e,go_sem])<;>clear e|rw[i64w (by omega)]|refine sd ?_<;>try simp only[go_sem]|fail)
   exact⟨(r,v',out++s,true),by simp only;omega,⟨by simp only;omega,hsi2,by simp only;omega,by simp only[zA];omega,by simp only;rw[g5,List.append_assoc]⟩,leN [(102100,104002),(200001,104001),(200003,104003),(200009,104101)] (by simp only[go_sem];first|done|omega|rfl) (by simp only[go_sem,cond_true];first|done|omega|rfl) (by simp[getN]) (by simp only[go_sem])⟩
  ·simp only[go_sem,cond_true]
   with_reducible repeat' (first|refine br ?_ ?_<;>intro h e<;>(try simp only[e,go_sem])<;>clear e|rw[i64w (by omega)]|refine sd ?_<;>try simp only[go_sem]|(first|refine cr (fc ..) ?_)<;>try simp only[go_sem]|fail)
   refine callN (c26 v l g2.wi (by omega)) [1007,200001,102100,200003] [] true 40 4 (by simp only[go_sem];first|done|simp) (by simp only[go_sem];first|done|simp) (by simp) (by simp) (by simp) ?_ ?_ ?_
   ·rintro _ _ ⟨rfl,v',hv',rfl⟩
    exact⟨by simp,by simp,.inl rfl,fun i hi=>by obtain rfl:i=0:=(by omega);simp[chH,stepOk]⟩
   ·intro i hi
    rcases(show i=0∨i=1∨i=2∨i=3 by omega) with rfl|rfl|rfl|rfl<;>simp only[go_sem]
   rintro _ _ ⟨rfl,v',hv',rfl⟩
   simp only[go_sem]
   rw[←hv'] at hsi2 hex g5
   generalize (lineDo v l).2=s at *
   with_reducible repeat' (first|refine br ?_ ?_<;>intro h e<;>(try simp only[e,go_sem])<;>clear e|rw[i64w (by omega)]|refine sd ?_<;>try simp only[go_sem]|fail)
   refine callN (o25 true (out) (s) (by omega)) [1009,200009] [] true 41 2 (by simp only[go_sem,bldH,adr,cond_true,cond_false];first|done|(simp;done)|(simp;omega)) (by simp only[go_sem,bldH,adr,cond_true,cond_false];first|done|(simp;done)|(simp;omega)) (by simp) (by simp) (by simp) ?_ ?_ ?_
   ·rintro _ _ ⟨rfl,rfl⟩
    exact⟨by simp[bldH],by simp[bldH],.inl rfl,fun i hi=>by obtain rfl:i=0:=(by omega);simp[chH,stepOk,bldH]⟩
   ·intro i hi;rcases(show i=0∨i=1 by omega) with rfl|rfl<;>simp only[go_sem]
   rintro _ _ ⟨rfl,rfl⟩
   simp only[go_sem,bldH,adr,cond_true]
   with_reducible repeat' (first|refine br ?_ ?_<;>intro h e<;>(try simp only[e,go_sem])<;>clear e|rw[i64w (by omega)]|refine sd ?_<;>try simp only[go_sem]|fail)
   exact⟨(r,v',out++s,true),by simp only;omega,⟨by simp only;omega,hsi2,by simp only;omega,by simp only[zA];omega,by simp only;rw[g5,List.append_assoc]⟩,leN [(102100,104002),(200001,104001),(200003,104003),(200009,104101)] (by simp only[go_sem];first|done|omega|rfl) (by simp only[go_sem,cond_true];first|done|omega|rfl) (by simp[getN]) (by simp only[go_sem])⟩
 ·have hcb:=cutB_no h10
  rw[hcb] at fc
  rw[cutAll_one h10] at g5
  rw[show([rest]:List B).dropLast=[] from rfl,show linesDo v []=(v,[]) from rfl,List.append_nil] at g5
  rw[g5]
  obtain⟨c,hc,hok⟩:=line_conv g2 g3
  obtain⟨b1,b2,b3,b4⟩:=endB hok
  have fa:=c27 c.upAck b1
  have fb:=c27 c.downAck b2
  have l1:=dec_le2 c.upAck
  have l2:=dec_le2 c.downAck
  have el:linesEnd v=(117::112::32::(dec c.upAck++[32]++c.upGot++[10]))++(100::111::119::110::32::(dec c.downAck++[32]++c.downGot++[10])):=by
   simp only[linesEnd,hc]
   simp
  simp only
  rw[el]
  clear el
  generalize dec c.upAck=x at *
  generalize dec c.downAck=y at *
  have hs1:(117::112::32::(x++[32]++c.upGot++[10])).length≤1000:=by simp;omega
  have hs2:(100::111::119::110::32::(y++[32]++c.downGot++[10])).length≤1000:=by simp;omega
  have hne:out++(117::112::32::(x++[32]++c.upGot++[10]))++(100::111::119::110::32::(y++[32]++c.downGot++[10]))≠[]:=by simp
  have hlt:(out++(117::112::32::(x++[32]++c.upGot++[10]))).length≤1900000:=by rw[zA];omega
  cases u
  ·simp only[go_sem,cond_false,hc,iadG_e,zC,zN]
   with_reducible repeat' (first|refine br ?_ ?_<;>intro h e<;>(try simp only[e,go_sem,hc,zA,zC,zN,zZ,zP,zU])<;>clear e|rw[i64w (by omega)]|refine sd ?_<;>try simp only[go_sem,hc,zA,zC,zN,zZ,zP,zU]|(first|refine cr (fc ..) ?_|refine cr (fa ..) ?_)<;>try simp only[go_sem,hc,zA,zC,zN,zZ,zP,zU]|fail)
   refine callN (o25 false (out) (117::112::32::(x++[32]++c.upGot++[10])) (by omega)) [1009,200009] [] true 56 2 (by simp only[go_sem,bldH,adr,cond_true,cond_false];first|done|(simp;done)|(simp;omega)) (by simp only[go_sem,bldH,adr,cond_true,cond_false];first|done|(simp;done)|(simp;omega)) (by simp) (by simp) (by simp) ?_ ?_ ?_
   ·rintro _ _ ⟨rfl,rfl⟩
    exact⟨by simp[bldH],by simp[bldH],.inl rfl,fun i hi=>by obtain rfl:i=0:=(by omega);simp[chH,stepOk,bldH]⟩
   ·intro i hi;rcases(show i=0∨i=1 by omega) with rfl|rfl<;>simp only[go_sem]
   rintro _ _ ⟨rfl,rfl⟩
   simp only[go_sem,bldH,adr,cond_true]
   with_reducible repeat' (first|refine br ?_ ?_<;>intro h e<;>(try simp only[e,go_sem,zA,zC,zN,zZ,zP,zU])<;>clear e|rw[i64w (by omega)]|refine sd ?_<;>try simp only[go_sem,zA,zC,zN,zZ,zP,zU]|(first|refine cr (fb ..) ?_)<;>try simp only[go_sem,zA,zC,zN,zZ,zP,zU]|fail)
   refine callN (o25 true (out++(117::112::32::(x++[32]++c.upGot++[10]))) (100::111::119::110::32::(y++[32]++c.downGot++[10])) (by omega)) [1009,105601] [] true 66 2 (by simp only[go_sem,bldH,adr,cond_true,cond_false];first|done|(simp;done)|(simp;omega)) (by simp only[go_sem,bldH,adr,cond_true,cond_false];first|done|(simp;done)|(simp;omega)) (by simp) (by simp) (by simp) ?_ ?_ ?_
   ·rintro _ _ ⟨rfl,rfl⟩
    exact⟨by simp[bldH],by simp[bldH],.inl rfl,fun i hi=>by obtain rfl:i=0:=(by omega);simp[chH,stepOk,bldH]⟩
   ·intro i hi;rcases(show i=0∨i=1 by omega) with rfl|rfl<;>simp only[go_sem]
   rintro _ _ ⟨rfl,rfl⟩
   simp only[go_sem,bldH,adr,cond_true]
   with_reducible repeat' (first|refine br ?_ ?_<;>intro h e<;>(try simp only[e,go_sem])<;>clear e|rw[i64w (by omega)]|refine sd ?_<;>try simp only[go_sem]|fail)
   refine callU (o28 (out++(117::112::32::(x++[32]++c.upGot++[10]))++(100::111::119::110::32::(y++[32]++c.downGot++[10]))) hne (by rw[zA];omega)) [1009,106601] [] 67 0 (by simp only[go_sem,bldH,adr,cond_true,cond_false];first|done|(simp;done)|(simp;omega)) (by simp only[go_sem,bldH,adr,cond_true,cond_false];first|done|(simp;done)|(simp;omega)) (by simp) (by simp) (by rintro _ _ ⟨rfl,rfl⟩;simp) (by intro i hi;omega) ?_
   rintro _ _ ⟨rfl,rfl⟩
   simp only[go_sem]
   with_reducible repeat' (first|refine br ?_ ?_<;>intro h e<;>(try simp only[e,go_sem])<;>clear e|rw[i64w (by omega)]|refine sd ?_<;>try simp only[go_sem]|fail)
   all_goals first|done|(simp;done)|trace_state
  ·simp only[go_sem,cond_true,hc,iadG_e,zC,zN]
   with_reducible repeat' (first|refine br ?_ ?_<;>intro h e<;>(try simp only[e,go_sem,hc,zA,zC,zN,zZ,zP,zU])<;>clear e|rw[i64w (by omega)]|refine sd ?_<;>try simp only[go_sem,hc,zA,zC,zN,zZ,zP,zU]|(first|refine cr (fc ..) ?_|refine cr (fa ..) ?_)<;>try simp only[go_sem,hc,zA,zC,zN,zZ,zP,zU]|fail)
   refine callN (o25 true (out) (117::112::32::(x++[32]++c.upGot++[10])) (by omega)) [1009,200009] [] true 56 2 (by simp only[go_sem,bldH,adr,cond_true,cond_false];first|done|(simp;done)|(simp;omega)) (by simp only[go_sem,bldH,adr,cond_true,cond_false];first|done|(simp;done)|(simp;omega)) (by simp) (by simp) (by simp) ?_ ?_ ?_
   ·rintro _ _ ⟨rfl,rfl⟩
    exact⟨by simp[bldH],by simp[bldH],.inl rfl,fun i hi=>by obtain rfl:i=0:=(by omega);simp[chH,stepOk,bldH]⟩
   ·intro i hi;rcases(show i=0∨i=1 by omega) with rfl|rfl<;>simp only[go_sem]
   rintro _ _ ⟨rfl,rfl⟩
   simp only[go_sem,bldH,adr,cond_true]
   with_reducible repeat' (first|refine br ?_ ?_<;>intro h e<;>(try simp only[e,go_sem,zA,zC,zN,zZ,zP,zU])<;>clear e|rw[i64w (by omega)]|refine sd ?_<;>try simp only[go_sem,zA,zC,zN,zZ,zP,zU]|(first|refine cr (fb ..) ?_)<;>try simp only[go_sem,zA,zC,zN,zZ,zP,zU]|fail)
   refine callN (o25 true (out++(117::112::32::(x++[32]++c.upGot++[10]))) (100::111::119::110::32::(y++[32]++c.downGot++[10])) (by omega)) [1009,105601] [] true 66 2 (by simp only[go_sem,bldH,adr,cond_true,cond_false];first|done|(simp;done)|(simp;omega)) (by simp only[go_sem,bldH,adr,cond_true,cond_false];first|done|(simp;done)|(simp;omega)) (by simp) (by simp) (by simp) ?_ ?_ ?_
   ·rintro _ _ ⟨rfl,rfl⟩
    exact⟨by simp[bldH],by simp[bldH],.inl rfl,fun i hi=>by obtain rfl:i=0:=(by omega);simp[chH,stepOk,bldH]⟩
   ·intro i hi;rcases(show i=0∨i=1 by omega) with rfl|rfl<;>simp only[go_sem]
   rintro _ _ ⟨rfl,rfl⟩
   simp only[go_sem,bldH,adr,cond_true]
   with_reducible repeat' (first|refine br ?_ ?_<;>intro h e<;>(try simp only[e,go_sem])<;>clear e|rw[i64w (by omega)]|refine sd ?_<;>try simp only[go_sem]|fail)
   refine callU (o28 (out++(117::112::32::(x++[32]++c.upGot++[10]))++(100::111::119::110::32::(y++[32]++c.downGot++[10]))) hne (by rw[zA];omega)) [1009,106601] [] 67 0 (by simp only[go_sem,bldH,adr,cond_true,cond_false];first|done|(simp;done)|(simp;omega)) (by simp only[go_sem,bldH,adr,cond_true,cond_false];first|done|(simp;done)|(simp;omega)) (by simp) (by simp) (by rintro _ _ ⟨rfl,rfl⟩;simp) (by intro i hi;omega) ?_
   rintro _ _ ⟨rfl,rfl⟩
   simp only[go_sem]
   with_reducible repeat' (first|refine br ?_ ?_<;>intro h e<;>(try simp only[e,go_sem])<;>clear e|rw[i64w (by omega)]|refine sd ?_<;>try simp only[go_sem]|fail)
   all_goals first|done|(simp;done)|trace_state
theorem bits10_ok:∀x∈bits10,x.all okB=true:=by decide
theorem x39 (code:B) (p m:Int) (hc:code.length≤2000) (hp:0≤p∧p≤800000000) (hm:0≤m∧m≤40):FnP Tryz.prog G 39 1 [rdH code p] [.pv 0 0,.int .i64 m] (rdQ code p 31 fun r=>∃s:B,(s.length:Int)≤m∧s.all okB=true∧r=.str s):=by
 refine mP dg39 Tryz.ntmps39 ⟨_,_,p,by omega,by omega,rfl,[],by simp;omega,rfl,rfl⟩ ?_
 simp only[ic39,go_sem,rdH]
 refine pkN code p 7 9 hc fun k k1 k2=>?_
 simp only[go_sem,rdH]
 have k2:=k2 (by omega)
 refine loopN (fun a:B×Int×Int=>⟨getL [(0,.pv 0 0),(1,.int .i64 m),(5,.str a.1),(6,.int .i64 a.2.1)],getH [(0,.var 66 [.sl 1 (code.map byR),.int .i64 a.2.2])]⟩) (fun a=>a.2.1.toNat) (fun a=>(0≤a.2.1∧a.2.1≤6)∧(p≤a.2.2∧a.2.2≤p+1+5*(6 - a.2.1))∧(a.1.length:Int)≤m∧a.1.all okB=true) ([],k,p+1) (leQ []) (by simp;omega) ?_
 intro⟨s,n,q⟩ ⟨h1,h2,h3,h4⟩
 simp only at h1 h2 h3 h4
 simp only[go_sem]
 with_reducible repeat' (first|rw[i64w (by omega)];try simp only[go_sem]|refine br ?_ ?_<;>intro h e<;>(try simp only[e,go_sem])<;>clear e|refine sd ?_<;>try simp only[go_sem]|fail)
 ·refine callN (c33 code q bits10 hc (by omega) (by decide)) [0] [1015] true 16 1 (by simp only[go_sem,rdH,bits10,List.mem_singleton];first|done|simp) (by simp only[go_sem,rdH];first|done|simp) (by simp) (by simp) (by simp only[List.mem_singleton];rintro c rfl;exact⟨rfl,by simp⟩) ?_ ?_ ?_
  ·rintro _ _ ⟨q',_,_,rfl,_⟩
   exact⟨by simp,by simp,.inl rfl,fun i hi=>by obtain rfl:i=0:=(by omega);simp[chH,stepOk,rdH]⟩
  ·intro i hi;obtain rfl:i=0:=(by omega);simp only[go_sem]
  rintro _ _ ⟨q',q1,q2,rfl,x,hx,rfl⟩
  have hxl:=bits10_le x hx
  have hxo:=bits10_ok x hx
  simp only[go_sem,rdH]
  refine pkN code q' 5 18 hc fun j j1 j2=>?_
  simp only[go_sem,rdH]
  with_reducible repeat' (first|rw[i64w (by omega)];try simp only[go_sem]|refine br ?_ ?_<;>intro h e<;>(try simp only[e,go_sem])<;>clear e|refine sd ?_<;>try simp only[go_sem]|fail)
  ·refine callN (c61 code (q'+1) hc (by omega)) [0] [] true 21 1 (by simp only[go_sem,rdH];first|done|simp) (by simp only[go_sem,rdH];first|done|simp) (by simp) (by simp) (by simp) ?_ ?_ ?_
   ·rintro _ _ ⟨q',_,_,rfl,_⟩
    exact⟨by simp,by simp,.inl rfl,fun i hi=>by obtain rfl:i=0:=(by omega);simp[chH,stepOk,rdH]⟩
   ·intro i hi;obtain rfl:i=0:=(by omega);simp only[go_sem]
   rintro _ _ ⟨q3,q4,q5,rfl,e,he1,he2,rfl⟩
   have hte:=text_le (e:=e)
   simp only[go_sem,rdH]
   refine callR (c37 e.a e.p) rfl rfl ?_
   simp only[go_sem]
   clear hx hxl hxo
   have hto:=text_ok (e:=e)
   generalize e.text=w at *
   refine pureG (by omega) ?_
   simp only[go_sem]
   have hwl:(w++[59]).length=w.length+1:=by simp
   with_reducible repeat' (first|rw[i64w (by omega)];try simp only[go_sem,hwl]|refine br ?_ ?_<;>intro h e<;>(try simp only[e,go_sem,hwl])<;>clear e|refine sd ?_<;>try simp only[go_sem,hwl]|fail)
   ·exact⟨(s++64::(w++[59]),n - 1,q3),by simp only;omega,⟨by simp only;omega,by simp only;omega,by simp only[zA,zC,zN];omega,by simp only[List.all_append,List.all_cons,h4,hto,List.all_nil];decide⟩,(leQ [])⟩
   ·exact⟨(s,n - 1,q3),by simp only;omega,⟨by simp only;omega,by simp only;omega,h3,h4⟩,(leQ [])⟩
  ·exact⟨(s++x,n - 1,q'+1),by simp only;omega,⟨by simp only;omega,by simp only;omega,by simp;omega,by simp only[List.all_append,h4,hxo,Bool.and_self]⟩,(leQ [])⟩
  ·exact⟨(s,n - 1,q'+1),by simp only;omega,⟨by simp only;omega,by simp only;omega,h3,h4⟩,(leQ [])⟩
 ·exact retN (.str s) [rdH code q] [] (by simp only[go_sem]) ⟨q,by omega,by omega,rfl,s,h3,h4,rfl⟩ (by simp only[go_sem,rdH]) (by simp[argH,getN,rdH]) (by simp only[go_sem,rdH])
def pkQ (r:V):Prop:=∃k:Pk,k.text.length≤50∧r=.agg (Pk.row k)
def words3:List B:=[[],[97,32,98],[120]]
theorem words3_le:∀x∈words3,x.length≤3:=by decide
def ic36:IC:=sR [oP 2 (.alloc 70 [i0,i0,i0,i0,i0,i0,s0])] (sR [mV 4 0,oP 5 (.call 18 [.t 4,.c (.int .i64 2)]),oP 6 (.bin .add (.c (.int .i64 1)) (.t 5)),mV 7 0,oP 8 (.call 61 [.t 7]),mV 9 0,oP 10 (.call 61 [.t 9]),mV 11 0,oP 12 (.call 18 [.t 11,.c (.int .i64 20)]),oP 13 (.build [i0,i0,i0,i0,i0,i0,s0] [(0,(1,.t 6)),(1,(2,.t 8)),(3,(2,.t 10)),(5,(1,.t 12))]),oP 3 (.alloc 70 [i0,i0,i0,i0,i0,i0,s0]),nP (.sto 7 (.t 3) (.t 13))] (.seq (sR [fD 14 0 3,lD 15 1 14,oP 16 (.bin .eql (.t 15) (.c (.int .i64 1)))] (.cond (.t 16) (.reg [mV 17 0,oP 18 (.call 39 [.t 17,.c (.int .i64 16)]),oP 19 (.bin .add (.t 18) (.c (.str [97]))),fD 20 6 3,nP (.sto 1 (.t 20) (.t 19))]) .skip)) (.seq (sR [mV 21 0,oP 22 (.call 18 [.t 21,.c (.int .i64 20)])] (.block 0 (sR [oP 24 (.bin .eql (.t 22) (.c i0)),mV 23 24] (.cond (.t 23) (.reg [mV 25 0,oP 26 (.call 18 [.t 25,.c (.int .i64 4)]),fD 27 0 3,nP (.sto 1 (.t 27) (.t 26))]) (sR [oP 29 (.bin .eql (.t 22) (.c (.int .i64 1))),mV 28 29] (.cond (.t 28) (.reg [oP 30 (.bsl 3 1 [.c (.int .i64 (-1)),.c (.int .i64 99),.c (.int .i64 100)]),mV 31 0,oP 32 (.call 18 [.t 31,.c (.int .i64 3)]),oP 33 (.iad 1 (.t 30) (.t 32)),lD 34 1 33,fD 35 5 3,nP (.sto 1 (.t 35) (.t 34))]) (sR [oP 37 (.bin .eql (.t 22) (.c (.int .i64 2))),mV 36 37] (.cond (.t 36) (.reg [mV 38 0,oP 39 (.bsl 9 1 [.c s0,.c (.str [97,32,98]),.c (.str [120])]),oP 40 (.call 33 [.t 38,.t 39]),fD 41 6 3,nP (.sto 1 (.t 41) (.t 40))]) .skip)))))))) (sR [lA 42 7 3,nP (.sto 7 (.t 2) (.t 42))] .ret))))
theorem dg36:Dg Tryz.prog 36 Tryz.f36 ic36 [(.cell 2 7 true)]:=⟨Tryz.func36,by kernel_rfl,by kernel_rfl⟩
theorem c36 (code:B) (p:Int) (hc:code.length≤2000) (hp:0≤p∧p≤600000000):FnP Tryz.prog G 36 1 [rdH code p] [.pv 0 0] (rdQ code p 60 pkQ):=by
 refine mP dg36 Tryz.ntmps36 ⟨_,_,p,by omega,by omega,rfl,.zero,by simp[Pk.zero],rfl⟩ ?_
 have fin:∀l mm (p':Int) (k:Pk),(p≤p'∧p'≤p+60)→k.text.length≤50→getL l 2=.pv 1002 0→getH mm 1002=.var 70 (Pk.row k)→getH mm 0=.var 66 [.sl 1 (code.map byR),.int .i64 p']→retQ [.cell 2 7 true] 1 (rdQ code p 60 pkQ) .ret ⟨getL l,getH mm⟩:=fun l mm p' k h1 h2 h3 h4 h5=>by
  refine retN (.agg (Pk.row k)) [rdH code p'] [] ?_ ⟨p',h1.1,h1.2,rfl,k,h2,rfl⟩ ?_ (by simp[argH,getN,rdH]) (by simp only[go_sem,rdH])
  ·simp only[go_sem,h3,h4]
  ·simp only[go_sem,rdH,h5]
 simp only[ic36,go_sem,rdH]
 with_reducible repeat' (first|rw[i64w (by omega)];try simp only[go_sem]|refine br ?_ ?_<;>intro h e<;>(try simp only[e,go_sem])<;>clear e|refine sd ?_<;>try simp only[go_sem]|fail)
 refine pkN code p 2 5 hc fun a a1 a2=>?_
 simp only[go_sem,rdH]
 with_reducible repeat' (first|rw[i64w (by omega)];try simp only[go_sem]|refine br ?_ ?_<;>intro h e<;>(try simp only[e,go_sem])<;>clear e|refine sd ?_<;>try simp only[go_sem]|fail)
 refine callN (c61 code (p+1) hc (by omega)) [0] [] true 8 1 (by simp only[go_sem,rdH];first|done|simp) (by simp only[go_sem,rdH];first|done|simp) (by simp) (by simp) (by simp) ?_ ?_ ?_
 ·rintro _ _ ⟨q',_,_,rfl,_⟩
  exact⟨by simp,by simp,.inl rfl,fun i hi=>by obtain rfl:i=0:=(by omega);simp[chH,stepOk,rdH]⟩
 ·intro i hi;obtain rfl:i=0:=(by omega);simp only[go_sem]
 rintro _ _ ⟨q1,q11,q12,rfl,e,_,_,rfl⟩
 simp only[go_sem,rdH]
 with_reducible repeat' (first|rw[i64w (by omega)];try simp only[go_sem]|refine br ?_ ?_<;>intro h e<;>(try simp only[e,go_sem])<;>clear e|refine sd ?_<;>try simp only[go_sem]|fail)
 refine callN (c61 code q1 hc (by omega)) [0] [] true 10 1 (by simp only[go_sem,rdH];first|done|simp) (by simp only[go_sem,rdH];first|done|simp) (by simp) (by simp) (by simp) ?_ ?_ ?_
 ·rintro _ _ ⟨q',_,_,rfl,_⟩
  exact⟨by simp,by simp,.inl rfl,fun i hi=>by obtain rfl:i=0:=(by omega);simp[chH,stepOk,rdH]⟩
 ·intro i hi;obtain rfl:i=0:=(by omega);simp only[go_sem]
 rintro _ _ ⟨q2,q21,q22,rfl,f,_,_,rfl⟩
 simp only[go_sem,rdH]
 with_reducible repeat' (first|rw[i64w (by omega)];try simp only[go_sem]|refine br ?_ ?_<;>intro h e<;>(try simp only[e,go_sem])<;>clear e|refine sd ?_<;>try simp only[go_sem]|fail)
 refine pkN code q2 20 12 hc fun b b1 b2=>?_
 simp only[go_sem,rdH]
 with_reducible repeat' (first|rw[i64w (by omega)];try simp only[go_sem]|refine br ?_ ?_<;>intro h e<;>(try simp only[e,go_sem])<;>clear e|refine sd ?_<;>try simp only[go_sem]|fail)
 ·have:=0
  refine callN (x39 code (q2+1) 16 hc (by omega) (by omega)) [0] [] true 18 1 (by simp only[go_sem,rdH];first|done|simp) (by simp only[go_sem,rdH];first|done|simp) (by simp) (by simp) (by simp) ?_ ?_ ?_
  ·rintro _ _ ⟨q',_,_,rfl,_⟩
   exact⟨by simp,by simp,.inl rfl,fun i hi=>by obtain rfl:i=0:=(by omega);simp[chH,stepOk,rdH]⟩
  ·intro i hi;obtain rfl:i=0:=(by omega);simp only[go_sem]
  rintro _ _ ⟨q3,q31,q32,rfl,t,ht1,_,rfl⟩
  simp only[go_sem,rdH]
  with_reducible repeat' (first|rw[i64w (by omega)];try simp only[go_sem]|refine br ?_ ?_<;>intro h e<;>(try simp only[e,go_sem])<;>clear e|refine sd ?_<;>try simp only[go_sem]|fail)
  refine pkN code q3 20 22 hc fun c c1 c2=>?_
  simp only[go_sem,rdH]
  have c2:=c2 (by omega)
  with_reducible repeat' (first|rw[i64w (by omega)];try simp only[go_sem]|refine br ?_ ?_<;>intro h e<;>(try simp only[e,go_sem])<;>clear e|refine sd ?_<;>try simp only[go_sem]|fail)
  ·have:=0
   refine pkN code (q3+1) 4 26 hc fun d d1 d2=>?_
   simp only[go_sem,rdH]
   with_reducible repeat' (first|rw[i64w (by omega)];try simp only[go_sem]|refine br ?_ ?_<;>intro h e<;>(try simp only[e,go_sem])<;>clear e|refine sd ?_<;>try simp only[go_sem]|fail)
   exact fin _ _ (q3+1+1) ⟨d,e,f,b,t++[97]⟩ (by omega) (by simp only[zA,zC,zN];omega) (by simp only[go_sem]) (by simp only[go_sem]) (by simp only[go_sem])
  ·have:=0
   refine pkN code (q3+1) 3 32 hc fun d d1 d2=>?_
   simp only[go_sem,rdH]
   have d2:=d2 (by omega)
   rcases(show d=0∨d=1∨d=2 by omega) with rfl|rfl|rfl
   ·have:=0
    with_reducible repeat' (first|rw[i64w (by omega)];try simp only[go_sem]|refine br ?_ ?_<;>intro h e<;>(try simp only[e,go_sem])<;>clear e|refine sd ?_<;>try simp only[go_sem]|fail)
    exact fin _ _ (q3+1+1) ⟨1+a,e,f,-1,t++[97]⟩ (by omega) (by simp only[zA,zC,zN];omega) (by simp only[go_sem]) (by simp only[go_sem]) (by simp only[go_sem])
   ·have:=0
    with_reducible repeat' (first|rw[i64w (by omega)];try simp only[go_sem]|refine br ?_ ?_<;>intro h e<;>(try simp only[e,go_sem])<;>clear e|refine sd ?_<;>try simp only[go_sem]|fail)
    exact fin _ _ (q3+1+1) ⟨1+a,e,f,99,t++[97]⟩ (by omega) (by simp only[zA,zC,zN];omega) (by simp only[go_sem]) (by simp only[go_sem]) (by simp only[go_sem])
   ·have:=0
    with_reducible repeat' (first|rw[i64w (by omega)];try simp only[go_sem]|refine br ?_ ?_<;>intro h e<;>(try simp only[e,go_sem])<;>clear e|refine sd ?_<;>try simp only[go_sem]|fail)
    exact fin _ _ (q3+1+1) ⟨1+a,e,f,100,t++[97]⟩ (by omega) (by simp only[zA,zC,zN];omega) (by simp only[go_sem]) (by simp only[go_sem]) (by simp only[go_sem])
  ·have:=0
   refine callN (c33 code (q3+1) words3 hc (by omega) (by decide)) [0] [1039] true 40 1 (by simp only[go_sem,rdH,words3,List.mem_singleton];first|done|simp) (by simp only[go_sem,rdH];first|done|simp) (by simp) (by simp) (by simp only[List.mem_singleton];rintro c rfl;exact⟨rfl,by simp⟩) ?_ ?_ ?_
   ·rintro _ _ ⟨q',_,_,rfl,_⟩
    exact⟨by simp,by simp,.inl rfl,fun i hi=>by obtain rfl:i=0:=(by omega);simp[chH,stepOk,rdH]⟩
   ·intro i hi;obtain rfl:i=0:=(by omega);simp only[go_sem]
   rintro _ _ ⟨q5,q51,q52,rfl,x,hx,rfl⟩
   simp only[go_sem,rdH]
   have hxl:=words3_le x hx
   with_reducible repeat' (first|rw[i64w (by omega)];try simp only[go_sem]|refine br ?_ ?_<;>intro h e<;>(try simp only[e,go_sem])<;>clear e|refine sd ?_<;>try simp only[go_sem]|fail)
   exact fin _ _ q5 ⟨1+a,e,f,b,x⟩ (by omega) (by simp only;omega) (by simp only[go_sem]) (by simp only[go_sem]) (by simp only[go_sem])
  ·exact fin _ _ (q3+1) ⟨1+a,e,f,b,t++[97]⟩ (by omega) (by simp only[zA,zC,zN];omega) (by simp only[go_sem]) (by simp only[go_sem]) (by simp only[go_sem])
 ·have:=0
  with_reducible repeat' (first|rw[i64w (by omega)];try simp only[go_sem]|refine br ?_ ?_<;>intro h e<;>(try simp only[e,go_sem])<;>clear e|refine sd ?_<;>try simp only[go_sem]|fail)
  refine pkN code (q2+1) 20 22 hc fun c c1 c2=>?_
  simp only[go_sem,rdH]
  have c2:=c2 (by omega)
  with_reducible repeat' (first|rw[i64w (by omega)];try simp only[go_sem]|refine br ?_ ?_<;>intro h e<;>(try simp only[e,go_sem])<;>clear e|refine sd ?_<;>try simp only[go_sem]|fail)
  ·have:=0
   refine pkN code ((q2+1)+1) 4 26 hc fun d d1 d2=>?_
   simp only[go_sem,rdH]
   with_reducible repeat' (first|rw[i64w (by omega)];try simp only[go_sem]|refine br ?_ ?_<;>intro h e<;>(try simp only[e,go_sem])<;>clear e|refine sd ?_<;>try simp only[go_sem]|fail)
   exact fin _ _ ((q2+1)+1+1) ⟨d,e,f,b,[]⟩ (by omega) (by simp) (by simp only[go_sem]) (by simp only[go_sem]) (by simp only[go_sem])
  ·have:=0
   refine pkN code ((q2+1)+1) 3 32 hc fun d d1 d2=>?_
   simp only[go_sem,rdH]
   have d2:=d2 (by omega)
   rcases(show d=0∨d=1∨d=2 by omega) with rfl|rfl|rfl
   ·have:=0
    with_reducible repeat' (first|rw[i64w (by omega)];try simp only[go_sem]|refine br ?_ ?_<;>intro h e<;>(try simp only[e,go_sem])<;>clear e|refine sd ?_<;>try simp only[go_sem]|fail)
    exact fin _ _ ((q2+1)+1+1) ⟨1+a,e,f,-1,[]⟩ (by omega) (by simp) (by simp only[go_sem]) (by simp only[go_sem]) (by simp only[go_sem])
   ·have:=0
    with_reducible repeat' (first|rw[i64w (by omega)];try simp only[go_sem]|refine br ?_ ?_<;>intro h e<;>(try simp only[e,go_sem])<;>clear e|refine sd ?_<;>try simp only[go_sem]|fail)
    exact fin _ _ ((q2+1)+1+1) ⟨1+a,e,f,99,[]⟩ (by omega) (by simp) (by simp only[go_sem]) (by simp only[go_sem]) (by simp only[go_sem])
   ·have:=0
    with_reducible repeat' (first|rw[i64w (by omega)];try simp only[go_sem]|refine br ?_ ?_<;>intro h e<;>(try simp only[e,go_sem])<;>clear e|refine sd ?_<;>try simp only[go_sem]|fail)
    exact fin _ _ ((q2+1)+1+1) ⟨1+a,e,f,100,[]⟩ (by omega) (by simp) (by simp only[go_sem]) (by simp only[go_sem]) (by simp only[go_sem])
  ·have:=0
   refine callN (c33 code ((q2+1)+1) words3 hc (by omega) (by decide)) [0] [1039] true 40 1 (by simp only[go_sem,rdH,words3,List.mem_singleton];first|done|simp) (by simp only[go_sem,rdH];first|done|simp) (by simp) (by simp) (by simp only[List.mem_singleton];rintro c rfl;exact⟨rfl,by simp⟩) ?_ ?_ ?_
   ·rintro _ _ ⟨q',_,_,rfl,_⟩
    exact⟨by simp,by simp,.inl rfl,fun i hi=>by obtain rfl:i=0:=(by omega);simp[chH,stepOk,rdH]⟩
   ·intro i hi;obtain rfl:i=0:=(by omega);simp only[go_sem]
   rintro _ _ ⟨q5,q51,q52,rfl,x,hx,rfl⟩
   simp only[go_sem,rdH]
   have hxl:=words3_le x hx
   with_reducible repeat' (first|rw[i64w (by omega)];try simp only[go_sem]|refine br ?_ ?_<;>intro h e<;>(try simp only[e,go_sem])<;>clear e|refine sd ?_<;>try simp only[go_sem]|fail)
   exact fin _ _ q5 ⟨1+a,e,f,b,x⟩ (by omega) (by simp only;omega) (by simp only[go_sem]) (by simp only[go_sem]) (by simp only[go_sem])
  ·exact fin _ _ ((q2+1)+1) ⟨1+a,e,f,b,[]⟩ (by omega) (by simp) (by simp only[go_sem]) (by simp only[go_sem]) (by simp only[go_sem])
theorem Ended.add {s t:B} (hs:Ended s) (ht:Ended t):Ended (s++t):=by
 rcases ht with rfl|⟨u,rfl⟩
 ·rw[List.append_nil];exact hs
 ·exact .inr ⟨s++u,by rw[List.append_assoc]⟩
theorem Ended.line (s t:B):Ended (s++t++[10]):=.inr ⟨s++t,rfl⟩
theorem e20 (s:B) (n:Nat) (hs:Ended s) (hn:s.length*n≤1000000) (hn2:n≤1000000):FnP Tryz.prog G 20 0 [] [.str s,.int .i64 (n:Int)] (fun r o=>o=[]∧∃t:B,(t.length=s.length*n∧Ended t)∧r=.str t):=by
 refine mP dg20 Tryz.ntmps20 ⟨_,_,rfl,List.replicate (s.length*n) 10,⟨by simp, ?_⟩,rfl⟩ ?_
 ·generalize s.length*n=k
  cases k with
  | zero=>exact .inl rfl
  | succ k=>exact .inr ⟨List.replicate k 10,by rw[←List.replicate_succ']⟩
 simp only[ic20,go_sem]
 refine loopN (fun a:B×Nat×B=>⟨getL [(0,.str a.1),(1,.int .i64 (a.2.1:Int)),(5,.str a.2.2)],getH []⟩) (fun a=>a.2.1) (fun a=>a.2.2.length+a.1.length*a.2.1=s.length*n∧a.2.1≤1000000∧Ended a.1∧Ended a.2.2) (s,n,[]) (leQ []) ⟨by simp,hn2,hs,.inl rfl⟩ ?_
 intro⟨t,m,u⟩ ⟨h1,h2,h3,h4⟩
 simp only at h1 h2 h3 h4
 simp only[go_sem]
 have e1:(m:Int).tmod 2=((m % 2:Nat):Int):=(Int.ofNat_tmod m 2).symm
 have e2:(m:Int).tdiv 2=((m / 2:Nat):Int):=(Int.ofNat_tdiv m 2).symm
 have hm2:=Nat.div_add_mod m 2
 have hmul:t.length*m=(t.length+t.length)*(m / 2)+t.length*(m % 2):=by
  conv=>lhs;rw[←hm2]
  rw[Nat.mul_add,Nat.add_mul,Nat.mul_left_comm,Nat.two_mul]
 have ht:0<m→t.length≤t.length*m:=fun h=>Nat.le_mul_of_pos_right _ h
 have w1:IntKind.i64.wrap ((m / 2:Nat):Int)=(m / 2:Nat):=i64w (by omega)
 with_reducible repeat' (first|refine br ?_ ?_<;>intro h e<;>(try simp only[e,go_sem,e1,e2,w1])<;>clear e|rw[i64w (by omega)]|refine sd ?_<;>try simp only[go_sem,e1,e2,w1]|fail)
 ·have hb:m % 2=1:=by omega
  rw[hb,Nat.mul_one] at hmul
  exact⟨(t++t,m / 2,u++t),by simp only;omega,⟨by simp only[zA];omega,by simp only;omega,Ended.add h3 h3,Ended.add h4 h3⟩,(leQ [])⟩
 ·have hb:m % 2=0:=by omega
  rw[hb,Nat.mul_zero] at hmul
  exact⟨(t++t,m / 2,u),by simp only;omega,⟨by simp only[zA];omega,by simp only;omega,Ended.add h3 h3,h4⟩,(leQ [])⟩
 ·obtain rfl:m=0:=by omega
  exact retN (.str u) [] [] (by simp only[go_sem]) ⟨rfl,u,⟨by simpa using h1,h4⟩,rfl⟩ (by simp only[go_sem]) (by simp[argH]) (by simp only[go_sem])
def wordsA:List B:=[[117,112,32],[100,111,119,110,32]]
theorem wordsA_le:∀x∈wordsA,x.length≤30:=by decide
def wordsB:List B:=[[108,111,115,101,32],[116,119,105,99,101,32]]
theorem wordsB_le:∀x∈wordsB,x.length≤30:=by decide
def wordsC:List B:=[[109,97,112],[110,101,116,115]]
theorem wordsC_le:∀x∈wordsC,x.length≤30:=by decide
def wordsD:List B:=[[119,104,97,116],[],[117,112],[98,114,105,110,103,32,120],[110,101,116,115],[102,111,114,103,101,32,100,97,116,97,32,54,58,54,32,57,58,49,48,32,48,32,113]]
theorem wordsD_le:∀x∈wordsD,x.length≤30:=by decide
def ic19:IC:=sR [oP 2 (.mv (.c s0))] (.seq (sR [mV 3 0,oP 4 (.call 18 [.t 3,.c (.int .i64 12)])] (.block 0 (.seq (sR [oP 6 (.bin .eql (.t 4) (.c i0)),mV 5 6] (.cond (.t 5) .skip (sR [oP 7 (.bin .eql (.t 4) (.c (.int .i64 1))),mV 5 7] (.cond (.t 5) .skip (.reg [oP 8 (.bin .eql (.t 4) (.c (.int .i64 2))),mV 5 8]))))) (.cond (.t 5) (sR [mV 9 0,oP 10 (.bsl 9 1 [.c (.str [117,112,32]),.c (.str [100,111,119,110,32])]),oP 11 (.call 33 [.t 9,.t 10]),mV 12 0,oP 13 (.call 18 [.t 12,.c (.int .i64 5)]),oP 14 (.call 34 [.t 13]),bN 15 .add 11 14,oP 16 (.bin .add (.t 15) (.c (.str [32]))),mV 17 0,oP 18 (.call 18 [.t 17,.c (.int .i64 9)]),oP 19 (.bin .add (.c (.int .i64 1)) (.t 18)),oP 20 (.call 34 [.t 19]),bN 21 .add 16 20,mV 2 21] .ret) (.seq (sR [oP 23 (.bin .eql (.t 4) (.c (.int .i64 3))),mV 22 23] (.cond (.t 22) .skip (sR [oP 24 (.bin .eql (.t 4) (.c (.int .i64 4))),mV 22 24] (.cond (.t 22) .skip (sR [oP 25 (.bin .eql (.t 4) (.c (.int .i64 5))),mV 22 25] (.cond (.t 22) .skip (.reg [oP 26 (.bin .eql (.t 4) (.c (.int .i64 6))),mV 22 26]))))))) (.cond (.t 22) (sR [mV 27 0,oP 28 (.call 18 [.t 27,.c (.int .i64 3)]),oP 29 (.call 34 [.t 28]),oP 30 (.bin .add (.c (.str [98,114,105,110,103,32])) (.t 29)),mV 2 30] .ret) (sR [oP 32 (.bin .eql (.t 4) (.c (.int .i64 7))),mV 31 32] (.cond (.t 31) (sR [mV 33 0,oP 34 (.bsl 9 1 [.c (.str [108,111,115,101,32]),.c (.str [116,119,105,99,101,32])]),oP 35 (.call 33 [.t 33,.t 34]),mV 36 0,oP 37 (.call 18 [.t 36,.c (.int .i64 3)]),oP 38 (.call 34 [.t 37]),bN 39 .add 35 38,mV 2 39] .ret) (sR [oP 41 (.bin .eql (.t 4) (.c (.int .i64 8))),mV 40 41] (.cond (.t 40) (sR [oP 2 (.mv (.c (.str [99,97,108,109])))] .ret) (sR [oP 43 (.bin .eql (.t 4) (.c (.int .i64 9))),mV 42 43] (.cond (.t 42) (sR [mV 44 0,oP 45 (.bsl 9 1 [.c (.str [109,97,112]),.c (.str [110,101,116,115])]),oP 46 (.call 33 [.t 44,.t 45]),mV 2 46] .ret) (sR [oP 48 (.bin .eql (.t 4) (.c (.int .i64 10))),mV 47 48] (.cond (.t 47) (sR [mV 49 0,oP 50 (.call 36 [.t 49]),oP 51 (.call 35 [.t 50]),oP 52 (.bin .add (.c (.str [102,111,114,103,101,32])) (.t 51)),mV 2 52] .ret) .skip)))))))))))))) (sR [mV 53 0,oP 54 (.bsl 9 1 [.c (.str [119,104,97,116]),.c s0,.c (.str [117,112]),.c (.str [98,114,105,110,103,32,120]),.c (.str [110,101,116,115]),.c (.str [102,111,114,103,101,32,100,97,116,97,32,54,58,54,32,57,58,49,48,32,48,32,113])]),oP 55 (.call 33 [.t 53,.t 54]),mV 2 55] .ret))
theorem dg19:Dg Tryz.prog 19 Tryz.f19 ic19 [(.t 2)]:=⟨Tryz.func19,by kernel_rfl,by kernel_rfl⟩
set_option maxHeartbeats 4000000 in
theorem c19 (code:B) (p:Int) (hc:code.length≤2000) (hp:0≤p∧p≤500000000):FnP Tryz.prog G 19 1 [rdH code p] [.pv 0 0] (rdQ code p 70 (strQ 200)):=by
 refine mP dg19 Tryz.ntmps19 ⟨_,_,p,by omega,by omega,rfl,[],by simp,rfl⟩ ?_
 have fin:∀l mm (s:B) (q:Int),(p≤q∧q≤p+70)→s.length≤200→getL l 2=.str s→getH mm 0=.var 66 [.sl 1 (code.map byR),.int .i64 q]→retQ [.t 2] 1 (rdQ code p 70 (strQ 200)) .ret ⟨getL l,getH mm⟩:=fun l mm s q h1 h2 h3 h4=>by
  refine retN (.str s) [rdH code q] [] (by simp only[go_sem,h3]) ⟨q,h1.1,h1.2,rfl,s,h2,rfl⟩ ?_ (by simp[argH,getN,rdH]) (by simp only[go_sem,rdH])
  simp only[go_sem,rdH,h4]
 simp only[ic19,go_sem,rdH]
 refine pkN code p 12 4 hc fun k k1 k2=>?_
 simp only[go_sem,rdH]
 with_reducible repeat' (first|rw[i64w (by omega)];try simp only[go_sem]|refine br ?_ ?_<;>intro h e<;>(try simp only[e,go_sem])<;>clear e|refine sd ?_<;>try simp only[go_sem]|fail)
 ·have:=0
  refine callN (c33 code (p+1) wordsA hc (by omega) (by decide)) [0] [1010] true 11 1 (by simp only[go_sem,rdH,wordsA,List.mem_singleton];first|done|simp) (by simp only[go_sem,rdH];first|done|simp) (by simp) (by simp) (by simp only[List.mem_singleton];rintro c rfl;exact⟨rfl,by simp⟩) ?_ ?_ ?_
  ·rintro _ _ ⟨q',_,_,rfl,_⟩
   exact⟨by simp,by simp,.inl rfl,fun i hi=>by obtain rfl:i=0:=(by omega);simp[chH,stepOk,rdH]⟩
  ·intro i hi;obtain rfl:i=0:=(by omega);simp only[go_sem]
  rintro _ _ ⟨q1,q11,q12,rfl,x,hx,rfl⟩
  simp only[go_sem,rdH]
  have hxl:=wordsA_le x hx
  with_reducible repeat' (first|rw[i64w (by omega)];try simp only[go_sem]|refine br ?_ ?_<;>intro h e<;>(try simp only[e,go_sem])<;>clear e|refine sd ?_<;>try simp only[go_sem]|fail)
  refine pkN code q1 5 13 hc fun a a1 a2=>?_
  simp only[go_sem,rdH]
  have a2:=a2 (by omega)
  have g1:=c34 a (by omega)
  have l1:=dec_le2 a
  generalize dec a=y at *
  with_reducible repeat' (first|rw[i64w (by omega)];try simp only[go_sem,zA,zC,zN,zZ,zP,zU]|refine br ?_ ?_<;>intro h e<;>(try simp only[e,go_sem,zA,zC,zN,zZ,zP,zU])<;>clear e|refine sd ?_<;>try simp only[go_sem,zA,zC,zN,zZ,zP,zU]|(first|refine cr (g1 ..) ?_)<;>try simp only[go_sem,zA,zC,zN,zZ,zP,zU]|fail)
  refine pkN code (q1+1) 9 18 hc fun b b1 b2=>?_
  simp only[go_sem,rdH]
  have b2:=b2 (by omega)
  have g2:=c34 (1+b) (by omega)
  have l2:=dec_le2 (1+b)
  generalize dec (1+b)=z at *
  with_reducible repeat' (first|rw[i64w (by omega)];try simp only[go_sem,zA,zC,zN,zZ,zP,zU]|refine br ?_ ?_<;>intro h e<;>(try simp only[e,go_sem,zA,zC,zN,zZ,zP,zU])<;>clear e|refine sd ?_<;>try simp only[go_sem,zA,zC,zN,zZ,zP,zU]|(first|refine cr (g2 ..) ?_)<;>try simp only[go_sem,zA,zC,zN,zZ,zP,zU]|fail)
  refine fin _ _ (x++y++[32]++z) (q1+1+1) (by omega) ?_ ?_ ?_
  ·simp only[zA,zC,zN,zZ,zP,zU];omega
  ·simp only[go_sem]
  ·simp only[go_sem]
 ·have:=0
  refine callN (c33 code (p+1) wordsA hc (by omega) (by decide)) [0] [1010] true 11 1 (by simp only[go_sem,rdH,wordsA,List.mem_singleton];first|done|simp) (by simp only[go_sem,rdH];first|done|simp) (by simp) (by simp) (by simp only[List.mem_singleton];rintro c rfl;exact⟨rfl,by simp⟩) ?_ ?_ ?_
  ·rintro _ _ ⟨q',_,_,rfl,_⟩
   exact⟨by simp,by simp,.inl rfl,fun i hi=>by obtain rfl:i=0:=(by omega);simp[chH,stepOk,rdH]⟩
  ·intro i hi;obtain rfl:i=0:=(by omega);simp only[go_sem]
  rintro _ _ ⟨q1,q11,q12,rfl,x,hx,rfl⟩
  simp only[go_sem,rdH]
  have hxl:=wordsA_le x hx
  with_reducible repeat' (first|rw[i64w (by omega)];try simp only[go_sem]|refine br ?_ ?_<;>intro h e<;>(try simp only[e,go_sem])<;>clear e|refine sd ?_<;>try simp only[go_sem]|fail)
  refine pkN code q1 5 13 hc fun a a1 a2=>?_
  simp only[go_sem,rdH]
  have a2:=a2 (by omega)
  have g1:=c34 a (by omega)
  have l1:=dec_le2 a
  generalize dec a=y at *
  with_reducible repeat' (first|rw[i64w (by omega)];try simp only[go_sem,zA,zC,zN,zZ,zP,zU]|refine br ?_ ?_<;>intro h e<;>(try simp only[e,go_sem,zA,zC,zN,zZ,zP,zU])<;>clear e|refine sd ?_<;>try simp only[go_sem,zA,zC,zN,zZ,zP,zU]|(first|refine cr (g1 ..) ?_)<;>try simp only[go_sem,zA,zC,zN,zZ,zP,zU]|fail)
  refine pkN code (q1+1) 9 18 hc fun b b1 b2=>?_
  simp only[go_sem,rdH]
  have b2:=b2 (by omega)
  have g2:=c34 (1+b) (by omega)
  have l2:=dec_le2 (1+b)
  generalize dec (1+b)=z at *
  with_reducible repeat' (first|rw[i64w (by omega)];try simp only[go_sem,zA,zC,zN,zZ,zP,zU]|refine br ?_ ?_<;>intro h e<;>(try simp only[e,go_sem,zA,zC,zN,zZ,zP,zU])<;>clear e|refine sd ?_<;>try simp only[go_sem,zA,zC,zN,zZ,zP,zU]|(first|refine cr (g2 ..) ?_)<;>try simp only[go_sem,zA,zC,zN,zZ,zP,zU]|fail)
  refine fin _ _ (x++y++[32]++z) (q1+1+1) (by omega) ?_ ?_ ?_
  ·simp only[zA,zC,zN,zZ,zP,zU];omega
  ·simp only[go_sem]
  ·simp only[go_sem]
 ·have:=0
  refine callN (c33 code (p+1) wordsA hc (by omega) (by decide)) [0] [1010] true 11 1 (by simp only[go_sem,rdH,wordsA,List.mem_singleton];first|done|simp) (by simp only[go_sem,rdH];first|done|simp) (by simp) (by simp) (by simp only[List.mem_singleton];rintro c rfl;exact⟨rfl,by simp⟩) ?_ ?_ ?_
  ·rintro _ _ ⟨q',_,_,rfl,_⟩
   exact⟨by simp,by simp,.inl rfl,fun i hi=>by obtain rfl:i=0:=(by omega);simp[chH,stepOk,rdH]⟩
  ·intro i hi;obtain rfl:i=0:=(by omega);simp only[go_sem]
  rintro _ _ ⟨q1,q11,q12,rfl,x,hx,rfl⟩
  simp only[go_sem,rdH]
  have hxl:=wordsA_le x hx
  with_reducible repeat' (first|rw[i64w (by omega)];try simp only[go_sem]|refine br ?_ ?_<;>intro h e<;>(try simp only[e,go_sem])<;>clear e|refine sd ?_<;>try simp only[go_sem]|fail)
  refine pkN code q1 5 13 hc fun a a1 a2=>?_
  simp only[go_sem,rdH]
  have a2:=a2 (by omega)
  have g1:=c34 a (by omega)
  have l1:=dec_le2 a
  generalize dec a=y at *
  with_reducible repeat' (first|rw[i64w (by omega)];try simp only[go_sem,zA,zC,zN,zZ,zP,zU]|refine br ?_ ?_<;>intro h e<;>(try simp only[e,go_sem,zA,zC,zN,zZ,zP,zU])<;>clear e|refine sd ?_<;>try simp only[go_sem,zA,zC,zN,zZ,zP,zU]|(first|refine cr (g1 ..) ?_)<;>try simp only[go_sem,zA,zC,zN,zZ,zP,zU]|fail)
  refine pkN code (q1+1) 9 18 hc fun b b1 b2=>?_
  simp only[go_sem,rdH]
  have b2:=b2 (by omega)
  have g2:=c34 (1+b) (by omega)
  have l2:=dec_le2 (1+b)
  generalize dec (1+b)=z at *
  with_reducible repeat' (first|rw[i64w (by omega)];try simp only[go_sem,zA,zC,zN,zZ,zP,zU]|refine br ?_ ?_<;>intro h e<;>(try simp only[e,go_sem,zA,zC,zN,zZ,zP,zU])<;>clear e|refine sd ?_<;>try simp only[go_sem,zA,zC,zN,zZ,zP,zU]|(first|refine cr (g2 ..) ?_)<;>try simp only[go_sem,zA,zC,zN,zZ,zP,zU]|fail)
  refine fin _ _ (x++y++[32]++z) (q1+1+1) (by omega) ?_ ?_ ?_
  ·simp only[zA,zC,zN,zZ,zP,zU];omega
  ·simp only[go_sem]
  ·simp only[go_sem]
 ·have:=0
  refine pkN code (p+1) 3 28 hc fun a a1 a2=>?_
  simp only[go_sem,rdH]
  have a2:=a2 (by omega)
  have g1:=c34 a (by omega)
  have l1:=dec_le2 a
  generalize dec a=y at *
  with_reducible repeat' (first|rw[i64w (by omega)];try simp only[go_sem,zA,zC,zN,zZ,zP,zU]|refine br ?_ ?_<;>intro h e<;>(try simp only[e,go_sem,zA,zC,zN,zZ,zP,zU])<;>clear e|refine sd ?_<;>try simp only[go_sem,zA,zC,zN,zZ,zP,zU]|(first|refine cr (g1 ..) ?_)<;>try simp only[go_sem,zA,zC,zN,zZ,zP,zU]|fail)
  refine fin _ _ (98::114::105::110::103::32::y) (p+1+1) (by omega) ?_ (by simp only[go_sem]) ?_
  ·simp only[zA,zC,zN,zZ,zP,zU];omega
  ·simp only[go_sem]
 ·have:=0
  refine pkN code (p+1) 3 28 hc fun a a1 a2=>?_
  simp only[go_sem,rdH]
  have a2:=a2 (by omega)
  have g1:=c34 a (by omega)
  have l1:=dec_le2 a
  generalize dec a=y at *
  with_reducible repeat' (first|rw[i64w (by omega)];try simp only[go_sem,zA,zC,zN,zZ,zP,zU]|refine br ?_ ?_<;>intro h e<;>(try simp only[e,go_sem,zA,zC,zN,zZ,zP,zU])<;>clear e|refine sd ?_<;>try simp only[go_sem,zA,zC,zN,zZ,zP,zU]|(first|refine cr (g1 ..) ?_)<;>try simp only[go_sem,zA,zC,zN,zZ,zP,zU]|fail)
  refine fin _ _ (98::114::105::110::103::32::y) (p+1+1) (by omega) ?_ (by simp only[go_sem]) ?_
  ·simp only[zA,zC,zN,zZ,zP,zU];omega
  ·simp only[go_sem]
 ·have:=0
  refine pkN code (p+1) 3 28 hc fun a a1 a2=>?_
  simp only[go_sem,rdH]
  have a2:=a2 (by omega)
  have g1:=c34 a (by omega)
  have l1:=dec_le2 a
  generalize dec a=y at *
  with_reducible repeat' (first|rw[i64w (by omega)];try simp only[go_sem,zA,zC,zN,zZ,zP,zU]|refine br ?_ ?_<;>intro h e<;>(try simp only[e,go_sem,zA,zC,zN,zZ,zP,zU])<;>clear e|refine sd ?_<;>try simp only[go_sem,zA,zC,zN,zZ,zP,zU]|(first|refine cr (g1 ..) ?_)<;>try simp only[go_sem,zA,zC,zN,zZ,zP,zU]|fail)
  refine fin _ _ (98::114::105::110::103::32::y) (p+1+1) (by omega) ?_ (by simp only[go_sem]) ?_
  ·simp only[zA,zC,zN,zZ,zP,zU];omega
  ·simp only[go_sem]
 ·have:=0
  refine pkN code (p+1) 3 28 hc fun a a1 a2=>?_
  simp only[go_sem,rdH]
  have a2:=a2 (by omega)
  have g1:=c34 a (by omega)
  have l1:=dec_le2 a
  generalize dec a=y at *
  with_reducible repeat' (first|rw[i64w (by omega)];try simp only[go_sem,zA,zC,zN,zZ,zP,zU]|refine br ?_ ?_<;>intro h e<;>(try simp only[e,go_sem,zA,zC,zN,zZ,zP,zU])<;>clear e|refine sd ?_<;>try simp only[go_sem,zA,zC,zN,zZ,zP,zU]|(first|refine cr (g1 ..) ?_)<;>try simp only[go_sem,zA,zC,zN,zZ,zP,zU]|fail)
  refine fin _ _ (98::114::105::110::103::32::y) (p+1+1) (by omega) ?_ (by simp only[go_sem]) ?_
  ·simp only[zA,zC,zN,zZ,zP,zU];omega
  ·simp only[go_sem]
 ·have:=0
  refine callN (c33 code (p+1) wordsB hc (by omega) (by decide)) [0] [1034] true 35 1 (by simp only[go_sem,rdH,wordsB,List.mem_singleton];first|done|simp) (by simp only[go_sem,rdH];first|done|simp) (by simp) (by simp) (by simp only[List.mem_singleton];rintro c rfl;exact⟨rfl,by simp⟩) ?_ ?_ ?_
  ·rintro _ _ ⟨q',_,_,rfl,_⟩
   exact⟨by simp,by simp,.inl rfl,fun i hi=>by obtain rfl:i=0:=(by omega);simp[chH,stepOk,rdH]⟩
  ·intro i hi;obtain rfl:i=0:=(by omega);simp only[go_sem]
  rintro _ _ ⟨q1,q11,q12,rfl,x,hx,rfl⟩
  simp only[go_sem,rdH]
  have hxl:=wordsB_le x hx
  with_reducible repeat' (first|rw[i64w (by omega)];try simp only[go_sem]|refine br ?_ ?_<;>intro h e<;>(try simp only[e,go_sem])<;>clear e|refine sd ?_<;>try simp only[go_sem]|fail)
  refine pkN code q1 3 37 hc fun a a1 a2=>?_
  simp only[go_sem,rdH]
  have a2:=a2 (by omega)
  have g1:=c34 a (by omega)
  have l1:=dec_le2 a
  generalize dec a=y at *
  with_reducible repeat' (first|rw[i64w (by omega)];try simp only[go_sem,zA,zC,zN,zZ,zP,zU]|refine br ?_ ?_<;>intro h e<;>(try simp only[e,go_sem,zA,zC,zN,zZ,zP,zU])<;>clear e|refine sd ?_<;>try simp only[go_sem,zA,zC,zN,zZ,zP,zU]|(first|refine cr (g1 ..) ?_)<;>try simp only[go_sem,zA,zC,zN,zZ,zP,zU]|fail)
  refine fin _ _ (x++y) (q1+1) (by omega) ?_ ?_ ?_
  ·simp only[zA,zC,zN,zZ,zP,zU];omega
  ·simp only[go_sem]
  ·simp only[go_sem]
 ·exact fin _ _ [99,97,108,109] (p+1) (by omega) (by simp) (by simp only[go_sem]) (by simp only[go_sem])
 ·have:=0
  refine callN (c33 code (p+1) wordsC hc (by omega) (by decide)) [0] [1045] true 46 1 (by simp only[go_sem,rdH,wordsC,List.mem_singleton];first|done|simp) (by simp only[go_sem,rdH];first|done|simp) (by simp) (by simp) (by simp only[List.mem_singleton];rintro c rfl;exact⟨rfl,by simp⟩) ?_ ?_ ?_
  ·rintro _ _ ⟨q',_,_,rfl,_⟩
   exact⟨by simp,by simp,.inl rfl,fun i hi=>by obtain rfl:i=0:=(by omega);simp[chH,stepOk,rdH]⟩
  ·intro i hi;obtain rfl:i=0:=(by omega);simp only[go_sem]
  rintro _ _ ⟨q1,q11,q12,rfl,x,hx,rfl⟩
  simp only[go_sem,rdH]
  have hxl:=wordsC_le x hx
  with_reducible repeat' (first|rw[i64w (by omega)];try simp only[go_sem]|refine br ?_ ?_<;>intro h e<;>(try simp only[e,go_sem])<;>clear e|refine sd ?_<;>try simp only[go_sem]|fail)
  exact fin _ _ x q1 (by omega) (by omega) (by simp only[go_sem]) (by simp only[go_sem])
 ·have:=0
  refine callN (c36 code (p+1) hc (by omega)) [0] [] true 50 1 (by simp only[go_sem,rdH];first|done|simp) (by simp only[go_sem,rdH];first|done|simp) (by simp) (by simp) (by simp) ?_ ?_ ?_
  ·rintro _ _ ⟨q',_,_,rfl,_⟩
   exact⟨by simp,by simp,.inl rfl,fun i hi=>by obtain rfl:i=0:=(by omega);simp[chH,stepOk,rdH]⟩
  ·intro i hi;obtain rfl:i=0:=(by omega);simp only[go_sem]
  rintro _ _ ⟨q1,q11,q12,rfl,pk,hpk,rfl⟩
  simp only[go_sem,rdH]
  have g1:=c35 pk (by omega)
  have hpl:=pktText_len pk
  generalize pktText pk=y at *
  with_reducible repeat' (first|rw[i64w (by omega)];try simp only[go_sem,zA,zC,zN,zZ,zP,zU]|refine br ?_ ?_<;>intro h e<;>(try simp only[e,go_sem,zA,zC,zN,zZ,zP,zU])<;>clear e|refine sd ?_<;>try simp only[go_sem,zA,zC,zN,zZ,zP,zU]|(first|refine cr (g1 ..) ?_)<;>try simp only[go_sem,zA,zC,zN,zZ,zP,zU]|fail)
  refine fin _ _ (102::111::114::103::101::32::y) q1 (by omega) ?_ (by simp only[go_sem]) ?_
  ·simp only[zA,zC,zN,zZ,zP,zU];omega
  ·simp only[go_sem]
 ·have:=0
  refine callN (c33 code (p+1) wordsD hc (by omega) (by decide)) [0] [1054] true 55 1 (by simp only[go_sem,rdH,wordsD,List.mem_singleton];first|done|simp) (by simp only[go_sem,rdH];first|done|simp) (by simp) (by simp) (by simp only[List.mem_singleton];rintro c rfl;exact⟨rfl,by simp⟩) ?_ ?_ ?_
  ·rintro _ _ ⟨q',_,_,rfl,_⟩
   exact⟨by simp,by simp,.inl rfl,fun i hi=>by obtain rfl:i=0:=(by omega);simp[chH,stepOk,rdH]⟩
  ·intro i hi;obtain rfl:i=0:=(by omega);simp only[go_sem]
  rintro _ _ ⟨q1,q11,q12,rfl,x,hx,rfl⟩
  simp only[go_sem,rdH]
  have hxl:=wordsD_le x hx
  with_reducible repeat' (first|rw[i64w (by omega)];try simp only[go_sem]|refine br ?_ ?_<;>intro h e<;>(try simp only[e,go_sem])<;>clear e|refine sd ?_<;>try simp only[go_sem]|fail)
  exact fin _ _ x q1 (by omega) (by omega) (by simp only[go_sem]) (by simp only[go_sem])
def drawLA (r:V) (o:List Hs):Prop:=∃up down text:B,((up.length≤50∧down.length≤50)∧text.length≤5000∧Ended text)∧r=.tup [.str up,.str down,.str text]∧o=[]
def ic14:IC:=sR [oP 2 (.mv (.c s0)),oP 3 (.mv (.c s0)),oP 4 (.mv (.c s0))] (sR [mV 9 0,oP 10 (.call 17 [.t 9]),mV 5 10] (sR [oP 6 (.mv (.c s0))] (.seq (sR [mV 11 5,oP 12 (.call 18 [.t 11,.c (.int .i64 14)]),mV 7 12] (.block 0 (.loop (.seq (sR [mV 13 7,oP 14 (.bin .gtr (.t 13) (.c i0))] (.cond (.t 14) .skip (.exit 0))) (.seq (.block 1 (.reg [mV 17 6,mV 18 5,oP 19 (.call 19 [.t 18]),bN 20 .add 17 19,oP 21 (.bin .add (.t 20) (.c (.str [10]))),mV 6 21])) (.reg [mV 15 7,oP 16 (.bin .sub (.t 15) (.c (.int .i64 1))),mV 7 16])))))) (.seq (sR [mV 22 5,oP 23 (.call 18 [.t 22,.c (.int .i64 40)]),oP 24 (.bin .eql (.t 23) (.c i0))] (.cond (.t 24) (.reg [mV 25 6,oP 26 (.call 20 [.c (.str [108,111,115,101,32,48,10]),.c (.int .i64 90)]),bN 27 .add 25 26,mV 6 27]) .skip)) (sR [mV 28 5,oP 29 (.call 21 [.t 28,.c (.bool false)]),mV 8 29] (.seq (sR [mV 30 5,oP 31 (.call 18 [.t 30,.c (.int .i64 20)]),oP 32 (.bin .eql (.t 31) (.c i0))] (.cond (.t 32) (.reg [mV 33 5,oP 34 (.call 22 [.t 33]),mV 8 34]) .skip)) (sR [mV 35 8,mV 36 5,oP 37 (.call 21 [.t 36,.c (.bool true)]),mV 38 6,mV 2 35,mV 3 37,mV 4 38] .ret)))))))
theorem dg14:Dg Tryz.prog 14 Tryz.f14 ic14 [(.t 2),(.t 3),(.t 4)]:=⟨Tryz.func14,by kernel_rfl,by kernel_rfl⟩
set_option maxHeartbeats 4000000 in
theorem c14 (code:B) (hc:code.length≤2000000):FnP Tryz.prog G 14 0 [] [.sl 1 (code.map byR)] drawLA:=by
 refine mP dg14 Tryz.ntmps14 ⟨_,_,[],[],[],⟨by simp,by simp,.inl rfl⟩,rfl,rfl⟩ ?_
 have hcl:(code.take 2000).length≤2000:=by simp;omega
 have fin:∀l mm (up down text:B),((up.length≤50∧down.length≤50)∧text.length≤5000∧Ended text)→getL l 2=.str up→getL l 3=.str down→getL l 4=.str text→retQ [.t 2,.t 3,.t 4] 0 drawLA .ret ⟨getL l,getH mm⟩:=fun l mm up down text h1 h2 h3 h4=>by
  refine retN (.tup [.str up,.str down,.str text]) [] [] ?_ ⟨up,down,text,h1,rfl,rfl⟩ (by simp only[go_sem]) (by simp[argH]) (by simp only[go_sem])
  simp only[go_sem,h2,h3,h4]
 simp only[ic14,go_sem]
 refine callO (c17 code hc) [] 10 1 (by simp only[go_sem];first|done|simp) (by simp) (by rintro _ _ ⟨rfl,rfl⟩;simp) (by intro i hi;obtain rfl:i=0:=(by omega);simp only[go_sem]) ?_
 rintro _ _ ⟨rfl,rfl⟩
 generalize code.take 2000=cd at *
 simp only[go_sem,rdH]
 with_reducible repeat' (first|rw[i64w (by omega)];try simp only[go_sem]|refine br ?_ ?_<;>intro h e<;>(try simp only[e,go_sem])<;>clear e|refine sd ?_<;>try simp only[go_sem]|fail)
 refine callN (c18 cd (0) 14 hcl (by omega) (by omega)) [101000] [] true 12 1 (by simp only[go_sem,rdH];first|done|simp) (by simp only[go_sem,rdH];first|done|simp) (by simp) (by simp) (by simp) ?_ ?_ ?_
 ·rintro _ _ ⟨k,_,_,rfl,rfl⟩;exact⟨by simp,by simp,.inl rfl,fun i hi=>by obtain rfl:i=0:=(by omega);simp[chH,stepOk,rdH]⟩
 ·intro i hi;obtain rfl:i=0:=(by omega);simp only[go_sem]
 rintro _ _ ⟨k,k1,k2,rfl,rfl⟩
 have k2:=k2 (by omega)
 simp only[go_sem,rdH]
 with_reducible repeat' (first|rw[i64w (by omega)];try simp only[go_sem]|refine br ?_ ?_<;>intro h e<;>(try simp only[e,go_sem])<;>clear e|refine sd ?_<;>try simp only[go_sem]|fail)
 refine loopN (fun a:B×Int×Int=>⟨getL [(5,.pv 101000 0),(6,.str a.1),(7,.int .i64 a.2.1)],getH [(101000,.var 66 [.sl 1 (cd.map byR),.int .i64 a.2.2])]⟩) (fun a=>a.2.1.toNat) (fun a=>(0≤a.2.1∧a.2.1≤14)∧(0≤a.2.2∧a.2.2+70*a.2.1≤2000)∧(a.1.length:Int)+201*a.2.1≤3000∧Ended a.1) ([],k,0+1) (leQ []) ⟨by simp only;omega,by simp only;omega,by simp only[zN];omega,.inl rfl⟩ ?_
 intro⟨s,n,q⟩ ⟨h1,h2,h3,h4⟩
 simp only at h1 h2 h3 h4
 simp only[go_sem]
 by_cases hn:0<n
 ·simp only[eq_true hn,go_sem]
  with_reducible repeat' (first|rw[i64w (by omega)];try simp only[go_sem]|refine br ?_ ?_<;>intro h e<;>(try simp only[e,go_sem])<;>clear e|refine sd ?_<;>try simp only[go_sem]|fail)
  refine callN (c19 cd q hcl (by omega)) [101000] [] true 19 1 (by simp only[go_sem,rdH];first|done|simp) (by simp only[go_sem,rdH];first|done|simp) (by simp) (by simp) (by simp) ?_ ?_ ?_
  ·rintro _ _ ⟨q',_,_,rfl,_⟩
   exact⟨by simp,by simp,.inl rfl,fun i hi=>by obtain rfl:i=0:=(by omega);simp[chH,stepOk,rdH]⟩
  ·intro i hi;obtain rfl:i=0:=(by omega);simp only[go_sem]
  rintro _ _ ⟨q1,q11,q12,rfl,x,hx,rfl⟩
  simp only[go_sem,rdH]
  with_reducible repeat' (first|rw[i64w (by omega)];try simp only[go_sem,zA,zC,zN,zZ,zP,zU]|refine br ?_ ?_<;>intro h e<;>(try simp only[e,go_sem,zA,zC,zN,zZ,zP,zU])<;>clear e|refine sd ?_<;>try simp only[go_sem,zA,zC,zN,zZ,zP,zU]|fail)
  exact⟨(s++x++[10],n - 1,q1),by simp only;omega,⟨by simp only;omega,by simp only;omega,by simp only[zA,zC,zN,zZ,zP,zU];omega,Ended.line s x⟩,(leQ [])⟩
 simp only[eq_false hn,go_sem]
 obtain rfl:n=0:=by omega
 clear hn h1
 with_reducible repeat' (first|rw[i64w (by omega)];try simp only[go_sem]|refine br ?_ ?_<;>intro h e<;>(try simp only[e,go_sem])<;>clear e|refine sd ?_<;>try simp only[go_sem]|fail)
 refine callN (c18 cd (q) 40 hcl (by omega) (by omega)) [101000] [] true 23 1 (by simp only[go_sem,rdH];first|done|simp) (by simp only[go_sem,rdH];first|done|simp) (by simp) (by simp) (by simp) ?_ ?_ ?_
 ·rintro _ _ ⟨k,_,_,rfl,rfl⟩;exact⟨by simp,by simp,.inl rfl,fun i hi=>by obtain rfl:i=0:=(by omega);simp[chH,stepOk,rdH]⟩
 ·intro i hi;obtain rfl:i=0:=(by omega);simp only[go_sem]
 rintro _ _ ⟨m,m1,m2,rfl,rfl⟩
 have m2:=m2 (by omega)
 simp only[go_sem,rdH]
 with_reducible repeat' (first|rw[i64w (by omega)];try simp only[go_sem]|refine br ?_ ?_<;>intro h e<;>(try simp only[e,go_sem])<;>clear e|refine sd ?_<;>try simp only[go_sem]|fail)
 ·have:=0
  refine callO (e20 [108,111,115,101,32,48,10] 90 (.inr ⟨[108,111,115,101,32,48],rfl⟩) (by decide) (by decide)) [] 26 0 (by simp only[go_sem];first|done|simp) (by simp) (by rintro _ _ ⟨rfl,_⟩;simp) (by intro i hi;omega) ?_
  rintro _ _ ⟨rfl,mt,⟨hml,hme⟩,rfl⟩
  simp only[zC,zN] at hml
  simp only[go_sem]
  with_reducible repeat' (first|rw[i64w (by omega)];try simp only[go_sem]|refine br ?_ ?_<;>intro h e<;>(try simp only[e,go_sem])<;>clear e|refine sd ?_<;>try simp only[go_sem]|fail)
  refine callN (c21 cd (q+1) false hcl (by omega)) [101000] [] true 29 1 (by simp only[go_sem,rdH];first|done|simp) (by simp only[go_sem,rdH];first|done|simp) (by simp) (by simp) (by simp) ?_ ?_ ?_
  ·rintro _ _ ⟨q',_,_,rfl,_⟩
   exact⟨by simp,by simp,.inl rfl,fun i hi=>by obtain rfl:i=0:=(by omega);simp[chH,stepOk,rdH]⟩
  ·intro i hi;obtain rfl:i=0:=(by omega);simp only[go_sem]
  rintro _ _ ⟨q2,q21,q22,rfl,up,hup,rfl⟩
  simp only[go_sem,rdH]
  with_reducible repeat' (first|rw[i64w (by omega)];try simp only[go_sem]|refine br ?_ ?_<;>intro h e<;>(try simp only[e,go_sem])<;>clear e|refine sd ?_<;>try simp only[go_sem]|fail)
  refine callN (c18 cd (q2) 20 hcl (by omega) (by omega)) [101000] [] true 31 1 (by simp only[go_sem,rdH];first|done|simp) (by simp only[go_sem,rdH];first|done|simp) (by simp) (by simp) (by simp) ?_ ?_ ?_
  ·rintro _ _ ⟨k,_,_,rfl,rfl⟩;exact⟨by simp,by simp,.inl rfl,fun i hi=>by obtain rfl:i=0:=(by omega);simp[chH,stepOk,rdH]⟩
  ·intro i hi;obtain rfl:i=0:=(by omega);simp only[go_sem]
  rintro _ _ ⟨j,j1,j2,rfl,rfl⟩
  have j2:=j2 (by omega)
  simp only[go_sem,rdH]
  with_reducible repeat' (first|rw[i64w (by omega)];try simp only[go_sem]|refine br ?_ ?_<;>intro h e<;>(try simp only[e,go_sem])<;>clear e|refine sd ?_<;>try simp only[go_sem]|fail)
  ·have:=0
   refine callN (c22 cd (q2+1) hcl (by omega)) [101000] [] true 34 1 (by simp only[go_sem,rdH];first|done|simp) (by simp only[go_sem,rdH];first|done|simp) (by simp) (by simp) (by simp) ?_ ?_ ?_
   ·rintro _ _ ⟨q',_,_,rfl,_⟩
    exact⟨by simp,by simp,.inl rfl,fun i hi=>by obtain rfl:i=0:=(by omega);simp[chH,stepOk,rdH]⟩
   ·intro i hi;obtain rfl:i=0:=(by omega);simp only[go_sem]
   rintro _ _ ⟨q3,q31,q32,rfl,up2,hup2,rfl⟩
   simp only[go_sem,rdH]
   with_reducible repeat' (first|rw[i64w (by omega)];try simp only[go_sem]|refine br ?_ ?_<;>intro h e<;>(try simp only[e,go_sem])<;>clear e|refine sd ?_<;>try simp only[go_sem]|fail)
   refine callN (c21 cd q3 true hcl (by omega)) [101000] [] true 37 1 (by simp only[go_sem,rdH];first|done|simp) (by simp only[go_sem,rdH];first|done|simp) (by simp) (by simp) (by simp) ?_ ?_ ?_
   ·rintro _ _ ⟨q',_,_,rfl,_⟩
    exact⟨by simp,by simp,.inl rfl,fun i hi=>by obtain rfl:i=0:=(by omega);simp[chH,stepOk,rdH]⟩
   ·intro i hi;obtain rfl:i=0:=(by omega);simp only[go_sem]
   rintro _ _ ⟨q4,q41,q42,rfl,dn,hdn,rfl⟩
   simp only[go_sem,rdH]
   with_reducible repeat' (first|rw[i64w (by omega)];try simp only[go_sem]|refine br ?_ ?_<;>intro h e<;>(try simp only[e,go_sem])<;>clear e|refine sd ?_<;>try simp only[go_sem]|fail)
   exact fin _ _ up2 dn (s++mt) ⟨⟨by omega,by omega⟩,by rw[zA];omega,Ended.add h4 hme⟩ (by simp only[go_sem]) (by simp only[go_sem]) (by simp only[go_sem])
  ·have:=0
   refine callN (c21 cd (q2+1) true hcl (by omega)) [101000] [] true 37 1 (by simp only[go_sem,rdH];first|done|simp) (by simp only[go_sem,rdH];first|done|simp) (by simp) (by simp) (by simp) ?_ ?_ ?_
   ·rintro _ _ ⟨q',_,_,rfl,_⟩
    exact⟨by simp,by simp,.inl rfl,fun i hi=>by obtain rfl:i=0:=(by omega);simp[chH,stepOk,rdH]⟩
   ·intro i hi;obtain rfl:i=0:=(by omega);simp only[go_sem]
   rintro _ _ ⟨q4,q41,q42,rfl,dn,hdn,rfl⟩
   simp only[go_sem,rdH]
   with_reducible repeat' (first|rw[i64w (by omega)];try simp only[go_sem]|refine br ?_ ?_<;>intro h e<;>(try simp only[e,go_sem])<;>clear e|refine sd ?_<;>try simp only[go_sem]|fail)
   exact fin _ _ up dn (s++mt) ⟨⟨by omega,by omega⟩,by rw[zA];omega,Ended.add h4 hme⟩ (by simp only[go_sem]) (by simp only[go_sem]) (by simp only[go_sem])
 ·have:=0
  refine callN (c21 cd (q+1) false hcl (by omega)) [101000] [] true 29 1 (by simp only[go_sem,rdH];first|done|simp) (by simp only[go_sem,rdH];first|done|simp) (by simp) (by simp) (by simp) ?_ ?_ ?_
  ·rintro _ _ ⟨q',_,_,rfl,_⟩
   exact⟨by simp,by simp,.inl rfl,fun i hi=>by obtain rfl:i=0:=(by omega);simp[chH,stepOk,rdH]⟩
  ·intro i hi;obtain rfl:i=0:=(by omega);simp only[go_sem]
  rintro _ _ ⟨q2,q21,q22,rfl,up,hup,rfl⟩
  simp only[go_sem,rdH]
  with_reducible repeat' (first|rw[i64w (by omega)];try simp only[go_sem]|refine br ?_ ?_<;>intro h e<;>(try simp only[e,go_sem])<;>clear e|refine sd ?_<;>try simp only[go_sem]|fail)
  refine callN (c18 cd (q2) 20 hcl (by omega) (by omega)) [101000] [] true 31 1 (by simp only[go_sem,rdH];first|done|simp) (by simp only[go_sem,rdH];first|done|simp) (by simp) (by simp) (by simp) ?_ ?_ ?_
  ·rintro _ _ ⟨k,_,_,rfl,rfl⟩;exact⟨by simp,by simp,.inl rfl,fun i hi=>by obtain rfl:i=0:=(by omega);simp[chH,stepOk,rdH]⟩
  ·intro i hi;obtain rfl:i=0:=(by omega);simp only[go_sem]
  rintro _ _ ⟨j,j1,j2,rfl,rfl⟩
  have j2:=j2 (by omega)
  simp only[go_sem,rdH]
  with_reducible repeat' (first|rw[i64w (by omega)];try simp only[go_sem]|refine br ?_ ?_<;>intro h e<;>(try simp only[e,go_sem])<;>clear e|refine sd ?_<;>try simp only[go_sem]|fail)
  ·have:=0
   refine callN (c22 cd (q2+1) hcl (by omega)) [101000] [] true 34 1 (by simp only[go_sem,rdH];first|done|simp) (by simp only[go_sem,rdH];first|done|simp) (by simp) (by simp) (by simp) ?_ ?_ ?_
   ·rintro _ _ ⟨q',_,_,rfl,_⟩
    exact⟨by simp,by simp,.inl rfl,fun i hi=>by obtain rfl:i=0:=(by omega);simp[chH,stepOk,rdH]⟩
   ·intro i hi;obtain rfl:i=0:=(by omega);simp only[go_sem]
   rintro _ _ ⟨q3,q31,q32,rfl,up2,hup2,rfl⟩
   simp only[go_sem,rdH]
   with_reducible repeat' (first|rw[i64w (by omega)];try simp only[go_sem]|refine br ?_ ?_<;>intro h e<;>(try simp only[e,go_sem])<;>clear e|refine sd ?_<;>try simp only[go_sem]|fail)
   refine callN (c21 cd q3 true hcl (by omega)) [101000] [] true 37 1 (by simp only[go_sem,rdH];first|done|simp) (by simp only[go_sem,rdH];first|done|simp) (by simp) (by simp) (by simp) ?_ ?_ ?_
   ·rintro _ _ ⟨q',_,_,rfl,_⟩
    exact⟨by simp,by simp,.inl rfl,fun i hi=>by obtain rfl:i=0:=(by omega);simp[chH,stepOk,rdH]⟩
   ·intro i hi;obtain rfl:i=0:=(by omega);simp only[go_sem]
   rintro _ _ ⟨q4,q41,q42,rfl,dn,hdn,rfl⟩
   simp only[go_sem,rdH]
   with_reducible repeat' (first|rw[i64w (by omega)];try simp only[go_sem]|refine br ?_ ?_<;>intro h e<;>(try simp only[e,go_sem])<;>clear e|refine sd ?_<;>try simp only[go_sem]|fail)
   exact fin _ _ up2 dn (s) ⟨⟨by omega,by omega⟩,by omega,h4⟩ (by simp only[go_sem]) (by simp only[go_sem]) (by simp only[go_sem])
  ·have:=0
   refine callN (c21 cd (q2+1) true hcl (by omega)) [101000] [] true 37 1 (by simp only[go_sem,rdH];first|done|simp) (by simp only[go_sem,rdH];first|done|simp) (by simp) (by simp) (by simp) ?_ ?_ ?_
   ·rintro _ _ ⟨q',_,_,rfl,_⟩
    exact⟨by simp,by simp,.inl rfl,fun i hi=>by obtain rfl:i=0:=(by omega);simp[chH,stepOk,rdH]⟩
   ·intro i hi;obtain rfl:i=0:=(by omega);simp only[go_sem]
   rintro _ _ ⟨q4,q41,q42,rfl,dn,hdn,rfl⟩
   simp only[go_sem,rdH]
   with_reducible repeat' (first|rw[i64w (by omega)];try simp only[go_sem]|refine br ?_ ?_<;>intro h e<;>(try simp only[e,go_sem])<;>clear e|refine sd ?_<;>try simp only[go_sem]|fail)
   exact fin _ _ up dn (s) ⟨⟨by omega,by omega⟩,by omega,h4⟩ (by simp only[go_sem]) (by simp only[go_sem]) (by simp only[go_sem])
theorem linesRun_no {up down:B} (h:worldNew [lineConv up down]=none) (t:B):linesRun up down t=[110,111,32,119,111,114,108,100,10]:=by
 unfold linesRun
 rw[h]
theorem linesRun_long {up down t:B} {w:M.World} (h:worldNew [lineConv up down]=some w) (hl:600<t.length):linesRun up down t=[116,111,111,32,108,111,110,103,10]:=by
 unfold linesRun
 rw[h]
 exact if_pos hl
theorem linesDo_len:∀(ls:List B) {w:M.World},SI CK CN w→(linesDo w ls).2.length≤2100*ls.length
 | [],_,_=>by simp[linesDo]
 | l::ls,w,h=>by
   have h1:=lineDo_len h.wi l
   have h2:=linesDo_len ls (lineDo_si calm_step h l)
   simp only[linesDo,zA,zC]
   omega
theorem linesRun_len (up down text:B):(linesRun up down text).length≤100000000:=by
 cases hw:worldNew [lineConv up down] with
 | none=>rw[linesRun_no hw];simp
 | some w =>
   by_cases h6:600<text.length
   ·rw[linesRun_long hw h6];simp
   ·rw[linesRun_is hw (by omega)]
    have h0:=linesDo_len (cutAll 10 text).dropLast (lines_calm hw [])
    simp only[linesDo] at h0
    have hln:=cutAll_len 10 text
    have hdl:(cutAll 10 text).dropLast.length=(cutAll 10 text).length - 1:=List.length_dropLast
    obtain⟨c,hc,hok⟩:=line_conv (lines_calm hw (cutAll 10 text).dropLast) (lines_one hw _)
    obtain⟨_,_,l3,l4⟩:=endB hok
    have l1:=dec_le2 c.upAck
    have l2:=dec_le2 c.downAck
    simp only[linesEnd,hc,zA,zC,zN]
    omega
end Go.Proofs.YtiegngjdjheebaaGreatDoor.W
