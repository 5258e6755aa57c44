/- Part 5 of the proof: the walk over values, the plain model, contracts of the functions of the program. -/
import Derived.Test.YtpppoklkijmeoaaGreatDoorQ04
import Derived.Deep.Slices
import Derived.ChangeMaps5
import Derived.Test.YtpppoklkijmeoaaGreatDoorQ03
import Derived.Test.YtpppoklkijmeoaaGreatDoorQ02
set_option linter.all false
namespace Go.Proofs.YtpppoklkijmeoaaGreatDoor.W
open Go Go.RowKit Go.Proofs Go.Proofs.YtpppoklkijmeoaaGreatDoor.VL Go.Proofs.YtpppoklkijmeoaaGreatDoor.M
def copyA (w:M.World) (r:V) (o:List Hs):Prop:=r=.agg [.own 0 w.convs.length,.sl 3 (w.door.map.map Pair.row),.own 1 w.door.flows.length,.own 2 w.nets.length] ∧
 o=[.arr 91 10 (w.convs.map Conv.row),.arr 130 8 (w.door.flows.map Flw.row),.arr 54 7 (w.nets.map Pk.row)]
theorem o28 {X:List (E×E)} (w:M.World) (hw:WX X w):FnP Tryz.prog G 28 0 [] [.agg [.sl 10 (w.convs.map Conv.row),.sl 3 (w.door.map.map Pair.row),.sl 8 (w.door.flows.map Flw.row),.sl 7 (w.nets.map Pk.row)]] (copyA w):=by
 refine mP dg28 Tryz.ntmps28 ⟨_,_,rfl,rfl⟩ ?_
 have hnl:=hw.nl
 have hcl:=hw.cl
 obtain⟨hdm,hdf,_⟩:=q0c.1 hw.door
 have hml:=(q0b hdm).2
 simp only[ic28,go_sem]
 with_reducible repeat' (first|refine br ?_ ?_<;>intro h e<;>(try simp only[e,go_sem])<;>clear e|rw[q00 (by omega)]|refine sd ?_<;>try simp only[go_sem]|fail)
 refine q14 (c61 (w.convs.map Conv.row) (by simp;omega)) [] 5 1 (by simp only[go_sem];first|done|simp) (by simp) (by rintro _ _ ⟨rfl,rfl⟩;simp) (by intro i hi;obtain rfl:i=0:=(by omega);simp only[go_sem]) ?_
 rintro _ _ ⟨rfl,rfl⟩
 simp only[go_sem]
 with_reducible repeat' (first|refine br ?_ ?_<;>intro h e<;>(try simp only[e,go_sem])<;>clear e|rw[q00 (by omega)]|refine sd ?_<;>try simp only[go_sem]|fail)
 refine q1z (o60 (w.convs.map Conv.row) w.convs.length (by simp)) [100500] [] 6 1 (by simp only[go_sem];first|done|simp) (by simp only[go_sem];first|done|simp) (by simp) (by simp) (by rintro _ _ ⟨rfl,rfl⟩;simp) (by intro i hi;obtain rfl:i=0:=(by omega);simp only[go_sem]) ?_
 rintro _ _ ⟨rfl,rfl⟩
 simp only[go_sem]
 with_reducible repeat' (first|refine br ?_ ?_<;>intro h e<;>(try simp only[e,go_sem])<;>clear e|rw[q00 (by omega)]|refine sd ?_<;>try simp only[go_sem]|fail)
 refine q14 (k62 (w.door.map.map Pair.row) w.door.flows (by simp;omega) (by omega) (qmv hw.door)) [] 9 1 (by simp only[go_sem];first|done|simp) (by simp) (by rintro _ _ ⟨rfl,rfl⟩;simp) (by intro i hi;obtain rfl:i=0:=(by omega);simp only[go_sem]) ?_
 rintro _ _ ⟨rfl,rfl⟩
 simp only[go_sem]
 with_reducible repeat' (first|refine br ?_ ?_<;>intro h e<;>(try simp only[e,go_sem])<;>clear e|rw[q00 (by omega)]|refine sd ?_<;>try simp only[go_sem]|fail)
 refine q14 (c64 (w.nets.map Pk.row) (by simp;omega)) [] 12 1 (by simp only[go_sem];first|done|simp) (by simp) (by rintro _ _ ⟨rfl,rfl⟩;simp) (by intro i hi;obtain rfl:i=0:=(by omega);simp only[go_sem]) ?_
 rintro _ _ ⟨rfl,rfl⟩
 simp only[go_sem]
 with_reducible repeat' (first|refine br ?_ ?_<;>intro h e<;>(try simp only[e,go_sem])<;>clear e|rw[q00 (by omega)]|refine sd ?_<;>try simp only[go_sem]|fail)
 refine q1z (o63 (w.nets.map Pk.row) w.nets.length (by simp)) [101200] [] 13 1 (by simp only[go_sem];first|done|simp) (by simp only[go_sem];first|done|simp) (by simp) (by simp) (by rintro _ _ ⟨rfl,rfl⟩;simp) (by intro i hi;obtain rfl:i=0:=(by omega);simp only[go_sem]) ?_
 rintro _ _ ⟨rfl,rfl⟩
 simp only[go_sem]
 with_reducible repeat' (first|refine br ?_ ?_<;>intro h e<;>(try simp only[e,go_sem])<;>clear e|rw[q00 (by omega)]|refine sd ?_<;>try simp only[go_sem]|fail)
 exact q1h (.agg [.own 0 w.convs.length,.sl 3 (w.door.map.map Pair.row),.own 1 w.door.flows.length,.own 2 w.nets.length]) [.arr 91 10 (w.convs.map Conv.row),.arr 130 8 (w.door.flows.map Flw.row),.arr 54 7 (w.nets.map Pk.row)] [(0,100600),(1,100900),(2,101300)] (by simp only[go_sem]) ⟨rfl,rfl⟩ (by simp only[go_sem]) (by simp[q11,q0f]) (by simp only[go_sem])
end Go.Proofs.YtpppoklkijmeoaaGreatDoor.W
namespace Go.Proofs.YtpppoklkijmeoaaGreatDoor.W
open Go Go.RowKit Go.Proofs Go.Proofs.YtpppoklkijmeoaaGreatDoor.VL Go.Proofs.YtpppoklkijmeoaaGreatDoor.M
attribute [local go_sem] qnl qy9 qe1 qdp qw8 qnm q8i Nat.reduceLT Nat.reduceMul Int.reduceToNat
theorem qdw {F:Nat→Prop} {f:Nat→Nat} {h h':Nat→Hs} {v:V}:Wk1 F f h h' v .undef=True:=by cases v<;>rfl
theorem rep0:List.replicate 0 V.undef=[]:=rfl
theorem rep8:List.replicate 8 V.undef=[.undef,.undef,.undef,.undef,.undef,.undef,.undef,.undef]:=rfl
theorem rep16:List.replicate 16 V.undef=[.undef,.undef,.undef,.undef,.undef,.undef,.undef,.undef,.undef,.undef,.undef,.undef,.undef,.undef,.undef,.undef]:=rfl
attribute [local go_sem] rep0 rep8 rep16 q1j qdw List.flatMap_cons List.flatMap_nil
theorem n144 (t:B) (rows:List (List V)) (hr:rows.length≤2000000):FnP Tryz.prog G 144 0 [] [.agg [.str t,.sl 2 rows]] (λr o=>r=.agg [.str t,.own 0 rows.length]∧o=[.arr 167 2 rows]):=by
 refine mP j09 Tryz.ntmps144 ⟨_,_,rfl,rfl⟩ ?_
 simp only[qp7,go_sem]
 with_reducible repeat' (first|refine br ?_ ?_<;>intro h e<;>(try simp only[e,go_sem])<;>clear e|rw[q00 (by omega)]|refine sd ?_<;>try simp only[go_sem]|fail)
 refine q14 (c165 rows hr) [] 7 1 (by simp only[go_sem];first|done|simp) (by simp) (by rintro _ _ ⟨rfl,rfl⟩;simp) (by intro i hi;obtain rfl:i=0:=(by omega);simp only[go_sem]) ?_
 rintro _ _ ⟨rfl,rfl⟩
 simp only[go_sem]
 with_reducible repeat' (first|refine br ?_ ?_<;>intro h e<;>(try simp only[e,go_sem])<;>clear e|rw[q00 (by omega)]|refine sd ?_<;>try simp only[go_sem]|fail)
 refine q1z (o164 rows rows.length rfl) [100700] [] 8 1 (by simp only[go_sem];first|done|simp) (by simp only[go_sem];first|done|simp) (by simp) (by simp) (by rintro _ _ ⟨rfl,rfl⟩;simp) (by intro i hi;obtain rfl:i=0:=(by omega);simp only[go_sem]) ?_
 rintro _ _ ⟨rfl,rfl⟩
 simp only[go_sem]
 with_reducible repeat' (first|refine br ?_ ?_<;>intro h e<;>(try simp only[e,go_sem])<;>clear e|rw[q00 (by omega)]|refine sd ?_<;>try simp only[go_sem]|fail)
 exact q1h (.agg [.str t,.own 0 rows.length]) [.arr 167 2 rows] [(0,100800)] (by simp only[go_sem]) ⟨rfl,rfl⟩ (by simp only[go_sem]) (by simp[q11,q0f]) (by simp only[go_sem])
theorem n113 (f:Flw) (h:f.up.parts.length≤2000000∧f.down.parts.length≤2000000):FnP Tryz.prog G 113 0 [] [.agg [.int .i64 f.ins.a,.int .i64 f.ins.p,.int .i64 f.out.a,.int .i64 f.out.p,.str f.up.inn,.sl 2 (f.up.parts.map Part.row),.str f.down.inn,.sl 2 (f.down.parts.map Part.row)]]
 (λr o=>r=.agg [.int .i64 f.ins.a,.int .i64 f.ins.p,.int .i64 f.out.a,.int .i64 f.out.p,.str f.up.inn,.own 0 f.up.parts.length,.str f.down.inn,.own 1 f.down.parts.length]∧o=[.arr 167 2 (f.up.parts.map Part.row),.arr 167 2 (f.down.parts.map Part.row)]):=by
 refine mP qya Tryz.ntmps113 ⟨_,_,rfl,rfl⟩ ?_
 simp only[qqn,go_sem]
 with_reducible repeat' (first|refine br ?_ ?_<;>intro h e<;>(try simp only[e,go_sem])<;>clear e|rw[q00 (by omega)]|refine sd ?_<;>try simp only[go_sem]|fail)
 refine q14 (n144 f.up.inn (f.up.parts.map Part.row) (by simp;omega)) [] 9 1 (by simp only[go_sem];first|done|simp) (by simp) (by rintro _ _ ⟨rfl,rfl⟩;simp) (by intro i hi;obtain rfl:i=0:=(by omega);simp only[go_sem]) ?_
 rintro _ _ ⟨rfl,rfl⟩
 simp only[go_sem,List.length_map]
 with_reducible repeat' (first|refine br ?_ ?_<;>intro h e<;>(try simp only[e,go_sem])<;>clear e|rw[q00 (by omega)]|refine sd ?_<;>try simp only[go_sem]|fail)
 refine q14 (n144 f.down.inn (f.down.parts.map Part.row) (by simp;omega)) [] 12 1 (by simp only[go_sem];first|done|simp) (by simp) (by rintro _ _ ⟨rfl,rfl⟩;simp) (by intro i hi;obtain rfl:i=0:=(by omega);simp only[go_sem]) ?_
 rintro _ _ ⟨rfl,rfl⟩
 simp only[go_sem,List.length_map]
 with_reducible repeat' (first|refine br ?_ ?_<;>intro h e<;>(try simp only[e,go_sem])<;>clear e|rw[q00 (by omega)]|refine sd ?_<;>try simp only[go_sem]|fail)
 exact q1h (.agg [.int .i64 f.ins.a,.int .i64 f.ins.p,.int .i64 f.out.a,.int .i64 f.out.p,.str f.up.inn,.own 0 f.up.parts.length,.str f.down.inn,.own 1 f.down.parts.length]) [.arr 167 2 (f.up.parts.map Part.row),.arr 167 2 (f.down.parts.map Part.row)] [(0,100900),(1,101200)] (by simp only[go_sem]) ⟨rfl,rfl⟩ (by simp only[go_sem]) (by simp[q11,q0f]) (by simp only[go_sem])
def in62:IC:=sR [oP 1 (.box 35 (.t 0)),oP 2 (.alloc 35 [.nils,.nils])] (.seq (.drw [0,1,3,0,8,24,56,127,0,511] [(0,fD 6 0 1),(1,lD 7 1 6),(2,oP 8 (.call 112 [.t 7])),(3,fD 9 1 1),(4,lD 10 1 9),(5,oP 11 (.len (.t 10))),(6,oP 12 (.mkn 130 8 (.t 11))),(7,oP 13 (.build [.nils,.nils] [(0,(1,.t 8)),(1,(1,.t 12))])),(8,oP 3 (.alloc 35 [.nils,.nils])),(9,nP (.sto 2 (.t 3) (.t 13)))]) (.seq (sR [fD 14 1 1,lD 15 1 14,oP 16 (.len (.t 15)),oP 17 (.mv (.c i0))] (.block 0 (.loop (sR [bN 18 .lss 17 16] (.seq (.cond (.t 18) .skip (.exit 0)) (.seq (.block 1 (sR [oP 19 (.iad 8 (.t 15) (.t 17)),lA 20 8 19,oP 5 (.alloc 130 [i0,i0,i0,i0,s0,.nils,s0,.nils]),nP (.sto 8 (.t 5) (.t 20))] (.drw [0,1,0,4,12,31,63,127] [(0,fD 21 1 3),(1,lD 22 1 21),(2,lA 23 8 5),(3,oP 24 (.call 113 [.t 23])),(4,oP 25 (.bsn 130 8 [.t 24])),(5,oP 26 (.apn 8 (.t 22) (.t 25))),(6,fD 27 1 3),(7,nP (.sto 1 (.t 27) (.t 26)))]))) (.reg [oP 28 (.bin .add (.t 17) (.c (.int .i64 1))),mV 17 28]))))))) (sR [lA 29 2 3,nP (.sto 2 (.t 2) (.t 29))] .ret)))
theorem dn62:DgN Tryz.prog 62 Tryz.f62 in62 [(.cell 2 2 true)]:=⟨Tryz.func62,by kernel_rfl,by kernel_rfl⟩
def hs0 (rows:List (List V)):Nat→List (Nat×Hs)
 | _=>[(3000002,.var 35 [.nils,.nils]),(3000003,.var 35 [.own 100800 rows.length,.view 3000012 0 0]),(100800,.arr 132 3 rows),(3000012,.var 130 [])]
def hs1 (rows:List (List V)) (f:Flw):Nat→List (Nat×Hs)
 | 0=>[(3000002,.var 35 [.nils,.nils]),(3000003,.var 35 [.own 100800 rows.length,.view 3000012 1 0]),(100800,.arr 132 3 rows),(3000012,.var 130 [.undef,.undef,.undef,.undef,.undef,.undef,.undef,.undef])]
 | _=>[(3000002,.var 35 [.nils,.nils]),(3000003,.var 35 [.own 100800 rows.length,.view 3000012 1 1]),(100800,.arr 132 3 rows),(3000012,.var 130 [.int .i64 f.ins.a,.int .i64 f.ins.p,.int .i64 f.out.a,.int .i64 f.out.p,.str f.up.inn,.own 2 f.up.parts.length,.str f.down.inn,.own 3 f.down.parts.length]),(2,.arr 167 2 (f.up.parts.map Part.row)),(3,.arr 167 2 (f.down.parts.map Part.row))]
def hs2 (rows:List (List V)) (f g:Flw):Nat→List (Nat×Hs)
 | 0=>[(3000002,.var 35 [.nils,.nils]),(3000003,.var 35 [.own 100800 rows.length,.view 3000012 2 0]),(100800,.arr 132 3 rows),(3000012,.var 130 [.undef,.undef,.undef,.undef,.undef,.undef,.undef,.undef,.undef,.undef,.undef,.undef,.undef,.undef,.undef,.undef])]
 | 1=>[(3000002,.var 35 [.nils,.nils]),(3000003,.var 35 [.own 100800 rows.length,.view 3000012 2 1]),(100800,.arr 132 3 rows),(3000012,.var 130 [.int .i64 f.ins.a,.int .i64 f.ins.p,.int .i64 f.out.a,.int .i64 f.out.p,.str f.up.inn,.own 2 f.up.parts.length,.str f.down.inn,.own 3 f.down.parts.length,.undef,.undef,.undef,.undef,.undef,.undef,.undef,.undef]),(2,.arr 167 2 (f.up.parts.map Part.row)),(3,.arr 167 2 (f.down.parts.map Part.row))]
 | _=>[(3000002,.var 35 [.nils,.nils]),(3000003,.var 35 [.own 100800 rows.length,.view 3000012 2 2]),(100800,.arr 132 3 rows),(3000012,.var 130 [.int .i64 f.ins.a,.int .i64 f.ins.p,.int .i64 f.out.a,.int .i64 f.out.p,.str f.up.inn,.own 2 f.up.parts.length,.str f.down.inn,.own 3 f.down.parts.length,.int .i64 g.ins.a,.int .i64 g.ins.p,.int .i64 g.out.a,.int .i64 g.out.p,.str g.up.inn,.own 4 g.up.parts.length,.str g.down.inn,.own 5 g.down.parts.length]),(2,.arr 167 2 (f.up.parts.map Part.row)),(3,.arr 167 2 (f.down.parts.map Part.row)),(4,.arr 167 2 (g.up.parts.map Part.row)),(5,.arr 167 2 (g.down.parts.map Part.row))]
end Go.Proofs.YtpppoklkijmeoaaGreatDoor.W
namespace Go.Proofs.YtpppoklkijmeoaaGreatDoor.W
open Go Go.RowKit Go.Proofs Go.Proofs.YtpppoklkijmeoaaGreatDoor.VL Go.Proofs.YtpppoklkijmeoaaGreatDoor.M Go.ChangeShapes Go.WideShapes
def q9i {κ:Type} (g:TypeId→Option (List κ)) (P:Program):Nat→List Field→Option (List κ)
 | _,[]=>some []
 | o,f::fs=>(g f.type).bind λk=>if f.offset=o∧P.cellsOf f.type=k.length then(q9i g P (o+k.length) fs).map (k++·) else none
def qhw (P:Program):Nat→TypeId→Option (List Bool)
 | 0,_=>none
 | n+1,t=>match P.underlying t with
   | some (.int .i64)=>some [false]
   | some .string=>some [true]
   | some (.struct fs)=>q9i (qhw P n) P 0 fs.toList
   | _=>none
def q9b:Bool→Value→Prop
 | false,v=>∃z,v=.int .i64 z
 | true,v=>∃s:ByteArray,v=.string s∧s.size≤maxLen
def GoodK {κ:Type} (ok:κ→Value→Prop) (ks:List κ) (cs:List Value):Prop:=∀(j:Nat) k,ks[j]?=some k→∃v,cs[j]?=some v∧ok k v
abbrev Good (ks:List Bool) (cs:List Value):Prop:=GoodK q9b ks cs
theorem q5t {κ:Type} {ok:κ→Value→Prop} {P:Program} {g:TypeId→Option (List κ)} {R:TypeId→List Value→Prop} (ih:∀t cs ks,R t cs→g t=some ks→GoodK ok ks cs) {cs:List Value}:∀(fs:List Field) (o:Nat) (ks:List κ),
 (∀f∈fs,R f.type ((cs.drop f.offset).take (P.cellsOf f.type)))→q9i g P o fs=some ks→∀(j:Nat) k,ks[j]?=some k→∃v,cs[o+j]?=some v∧ok k v
 | [],o,ks,h,he,j,k,hj=>by simp only[q9i,zS] at he;subst he;simp at hj
 | f::fs,o,ks,h,he,j,k,hj=>by
   simp only[q9i,zB] at he
   obtain⟨k0,hk0,he⟩:=he
   split at he
   ·rename_i hc
    obtain⟨hc1,hc2⟩:=hc
    obtain⟨k1,hk1,rfl⟩:=Option.map_eq_some_iff.1 he
    by_cases hlt:j<k0.length
    ·rw[List.getElem?_append_left hlt] at hj
     obtain⟨v,hv,hk⟩:=ih _ _ _ (h f (by simp)) hk0 j k hj
     rw[hc1,hc2,List.getElem?_take,if_pos hlt,List.getElem?_drop] at hv
     exact⟨v,hv,hk⟩
    ·rw[List.getElem?_append_right (by omega)] at hj
     obtain⟨v,hv,hk⟩:=q5t ih fs _ k1 (λf hf=>h f (by simp[hf])) hk1 _ k hj
     rw[show o+k0.length+(j - k0.length)=o+j by omega] at hv
     exact⟨v,hv,hk⟩
   ·cases he
section
variable {H:Type} {enc:TypeId×Value→H} {P:Program} {w:World} {base:Nat} {sp:Nat→Bool} {held:Bool}
theorem q49:∀(n fuel:Nat) (t:TypeId) (cs:List Value) x (ks:List Bool),DataW.trod enc P w base sp held fuel t cs=some x→qhw P n t=some ks→Good ks cs
 | 0,_,_,_,_,_,_,h=>by simp[qhw] at h
 | n+1,fuel,t,cs,x,ks,hx,h=>by
   unfold qhw at h
   split at h
   ·rename_i ht
    cases h
    obtain⟨z,rfl,_⟩:=DataW.trod_int ht hx
    intro j k hj
    match j with
    | 0=>cases hj;exact⟨_,rfl,z,rfl⟩
    | j+1=>simp at hj
   ·rename_i ht
    cases h
    obtain⟨s,rfl,_,hs⟩:=DataW.trod_string ht hx
    intro j k hj
    match j with
    | 0=>cases hj;exact⟨_,rfl,s,rfl,hs⟩
    | j+1=>simp at hj
   ·rename_i fs ht
    obtain⟨xs,m,_,rfl,_,hxl,hf⟩:=DataW.trod_struct ht hx
    intro j k hj
    have:=q5t (ok:=q9b) (P:=P) (g:=qhw P n) (R:=λt cs=>∃x,DataW.trod enc P w base sp held m t cs=some x) (λt cs ks ⟨x,hx⟩ hk=>q49 n m t cs x ks hx hk) (cs:=cs) fs.toList 0 ks (λf hf'=>by
     obtain⟨i,hi⟩:=List.getElem?_of_mem hf'
     have hi':fs[i]?=some f:=by simpa using hi
     have g:=hf i f hi'
     have hlt:i<fs.size:=(Array.getElem?_eq_some_iff.1 hi').1
     rw[zE (by omega)] at g
     exact⟨_,g⟩) h j k hj
    simpa using this
   ·cases h
theorem q41 {t e:TypeId} {fuel sz:Nat} {κ:Type} {ok:κ→Value→Prop} {ks:List κ} {α:Type} [Inhabited α] {Q:α→Prop} (row:α→List V) (ht:P.underlying t=some (.slice e)) (hk:∀fuel cs x,DataW.trod enc P w base sp held fuel e cs=some x→GoodK ok ks cs) (hsz:P.cellsOf e=sz) (hz:0<sz)
 (hrow:∀a,(row a).length=sz) (mk:∀cs,GoodK ok ks cs→∃a,Q a∧∀(j:Nat) v,(row a)[j]?=some v→∃u,cs[j]?=some u∧Imm w noO v u)
 {v:Value} {x:DataW H×List MemPlace} (hf:DataW.trod enc P w base sp held fuel t [v]=some x):∃l:List α,Imm w noO (.sl sz (l.map row)) v∧(l.length:Int)≤9223372036854775807∧∀a∈l,Q a:=by
 rcases Go.Deep.open_slice ht hf with⟨hcs,_⟩|⟨x,len0,cap0,m,n',D,Pl,hcs,_,hl,hm,hmm,_,hel⟩
 ·simp only[List.cons.injEq,and_true] at hcs
  subst hcs
  exact⟨[],Imm.esl sz none 0,by simp,λa ha=>by cases ha⟩
 ·simp only[List.cons.injEq,and_true] at hcs
  subst hcs
  have hle:len0≤m:=by rw[hmm];split<;>omega
  rw[hsz] at hel
  obtain⟨F,hF⟩:=Go.Deep.choose_lt (α:=α) (n:=len0) (p:=λi a=>Q a∧∀(j:Nat) v,(row a)[j]?=some v→∃u,w.cell? ((x.add (i*sz)).add j)=some u∧Imm w noO v u) (λi hi=>by
   obtain⟨cs',h1,h2⟩:=hel i (by omega)
   obtain⟨_,hlen,hc⟩:=World.cells?_some h1
   obtain⟨a,ha,hb⟩:=mk cs' (hk _ _ _ h2)
   refine⟨a,ha,λj v hj=>?_⟩
   obtain⟨u,hu,hi⟩:=hb j v hj
   have hjl:j<sz:=by rw[←hrow a];exact(List.getElem?_eq_some_iff.1 hj).1
   exact⟨u,by rw[hc j hjl];exact hu,hi⟩)
  refine⟨(List.range len0).map F, ?_, ?_, ?_⟩
  ·cases len0 with
   | zero=>exact Imm.esl sz _ _
   | succ n0 =>
     have c0:=(hF 0 (by omega)).2 0
     obtain⟨v0,hv0⟩:∃v0,(row (F 0))[0]?=some v0:=⟨_,zE (by rw[hrow];exact hz)⟩
     obtain⟨u0,hu0,_⟩:=c0 v0 hv0
     have hsp:x.spot=none:=by
      have:=World.cell?_spot hu0
      simpa[Addr.add] using this
     obtain⟨b,o,sp⟩:=x
     simp only at hsp
     subst hsp
     have hlt:b<w.heap.size:=by
      have h3:=hu0
      simp only[Nat.zero_mul,Addr.add,if_true] at h3
      unfold World.cell? at h3
      split at h3
      ·rename_i hh;exact(Array.getElem?_eq_some_iff.1 hh).1
      ·cases h3
     have hat:∀(i j:Nat),((⟨b,o,none⟩:Addr).add (i*sz)).add j=⟨b,o+(i*sz+j),none⟩:=λi j=>by rw[Go.Deep.add_add];exact add_plain _ _ _
     have cell:∀(i:Nat) r (j:Nat) v,(((List.range (n0+1)).map F).map row)[i]?=some r→r[j]?=some v→∃u,w.cell? ⟨b,o+(i*sz+j),none⟩=some u∧Imm w noO v u:=λi r j v hr hv=>by
      have hi:i<n0+1:=by have:=(List.getElem?_eq_some_iff.1 hr).1;simpa using this
      simp[hi] at hr
      subst hr
      obtain⟨u,h1,h2⟩:=(hF i hi).2 j v hv
      rw[hat] at h1
      exact⟨u,h1,h2⟩
     have key:=Imm.sl (w:=w) (O:=noO) sz (((List.range (n0+1)).map F).map row) b o cap0 (λi j=>(w.cell? ⟨b,o+(i*sz+j),none⟩).getD undef) (λh=>h) hlt (by simp) (λr hr=>by
      obtain⟨y,_,rfl⟩:=List.mem_map.1 hr;exact hrow y) (by simp;omega)
      (λi r j v hr hv=>by obtain⟨u,h1,_⟩:=cell i r j v hr hv;rw[h1];rfl) (λi r j v hr hv=>by obtain⟨u,h1,h2⟩:=cell i r j v hr hv;rw[h1];exact h2)
     have e:(((List.range (n0+1)).map F).map row).length=n0+1:=by simp
     rw[e] at key
     exact key
  ·have hx:maxLen=9223372036854775807:=rfl
   rw[List.length_map,List.length_range]
   omega
  ·intro a ha
   obtain⟨i,hi,rfl⟩:=List.mem_map.1 ha
   exact(hF i (List.mem_range.1 hi)).1
end
theorem gi {ks:List Bool} {cs:List Value} (h:Good ks cs) (j:Nat) (hj:ks[j]?=some false):∃z,cs[j]?=some (.int .i64 z):=by
 obtain⟨v,h1,z,rfl⟩:=h j false hj
 exact⟨z,h1⟩
theorem gs {ks:List Bool} {cs:List Value} (h:Good ks cs) (j:Nat) (hj:ks[j]?=some true):∃t:B,cs[j]?=some (.string (VL.mkStr t))∧(t.length:Int)≤9223372036854775807:=by
 obtain⟨v,h1,s,rfl,hs⟩:=h j true hj
 refine⟨s.data.toList,by rw[h1,VL.mkStr_data], ?_⟩
 have hx:maxLen=9223372036854775807:=rfl
 have:s.data.toList.length=s.size:=rfl
 omega
def qzn (c:Conv):Prop:=(c.up.length:Int)≤9223372036854775807∧(c.down.length:Int)≤9223372036854775807∧(c.upGot.length:Int)≤9223372036854775807∧(c.downGot.length:Int)≤9223372036854775807
def qtv (e:Ev):Prop:=(e.pkt.text.length:Int)≤9223372036854775807
theorem qrp {w:Go.World} (cs:List Value) (h:Good [false,false,false,false,true,true,false,false,true,true] cs):∃a:Conv,qzn a∧∀(j:Nat) v,(Conv.row a)[j]?=some v→∃u,cs[j]?=some u∧Imm w noO v u:=by
 obtain⟨z0,h0⟩:=gi h 0 rfl
 obtain⟨z1,h1⟩:=gi h 1 rfl
 obtain⟨z2,h2⟩:=gi h 2 rfl
 obtain⟨z3,h3⟩:=gi h 3 rfl
 obtain⟨s4,h4,l4⟩:=gs h 4 rfl
 obtain⟨s5,h5,l5⟩:=gs h 5 rfl
 obtain⟨z6,h6⟩:=gi h 6 rfl
 obtain⟨z7,h7⟩:=gi h 7 rfl
 obtain⟨s8,h8,l8⟩:=gs h 8 rfl
 obtain⟨s9,h9,l9⟩:=gs h 9 rfl
 refine⟨⟨⟨z0,z1⟩,⟨z2,z3⟩,s4,s5,z6,z7,s8,s9⟩,⟨l4,l5,l8,l9⟩,λj v hj=>?_⟩
 match j,hj with
 | 0,hj=>cases hj;exact⟨_,h0,Imm.int _ _⟩
 | 1,hj=>cases hj;exact⟨_,h1,Imm.int _ _⟩
 | 2,hj=>cases hj;exact⟨_,h2,Imm.int _ _⟩
 | 3,hj=>cases hj;exact⟨_,h3,Imm.int _ _⟩
 | 4,hj=>cases hj;exact⟨_,h4,Imm.str _⟩
 | 5,hj=>cases hj;exact⟨_,h5,Imm.str _⟩
 | 6,hj=>cases hj;exact⟨_,h6,Imm.int _ _⟩
 | 7,hj=>cases hj;exact⟨_,h7,Imm.int _ _⟩
 | 8,hj=>cases hj;exact⟨_,h8,Imm.str _⟩
 | 9,hj=>cases hj;exact⟨_,h9,Imm.str _⟩
 | j+10,hj=>exact absurd (List.getElem?_eq_some_iff.1 hj).1 (by simp only[Conv.row,zC,zN];omega)
theorem mk_ev {w:Go.World} (cs:List Value) (h:Good [false,false,false,false,false,false,false,false,false,false,true] cs):∃a:Ev,qtv a∧∀(j:Nat) v,(Ev.row a)[j]?=some v→∃u,cs[j]?=some u∧Imm w noO v u:=by
 obtain⟨z0,h0⟩:=gi h 0 rfl
 obtain⟨z1,h1⟩:=gi h 1 rfl
 obtain⟨z2,h2⟩:=gi h 2 rfl
 obtain⟨z3,h3⟩:=gi h 3 rfl
 obtain⟨z4,h4⟩:=gi h 4 rfl
 obtain⟨z5,h5⟩:=gi h 5 rfl
 obtain⟨z6,h6⟩:=gi h 6 rfl
 obtain⟨z7,h7⟩:=gi h 7 rfl
 obtain⟨z8,h8⟩:=gi h 8 rfl
 obtain⟨z9,h9⟩:=gi h 9 rfl
 obtain⟨s,ha,l⟩:=gs h 10 rfl
 refine⟨⟨z0,z1,z2,z3,⟨z4,⟨z5,z6⟩,⟨z7,z8⟩,z9,s⟩⟩,l,λj v hj=>?_⟩
 match j,hj with
 | 0,hj=>cases hj;exact⟨_,h0,Imm.int _ _⟩
 | 1,hj=>cases hj;exact⟨_,h1,Imm.int _ _⟩
 | 2,hj=>cases hj;exact⟨_,h2,Imm.int _ _⟩
 | 3,hj=>cases hj;exact⟨_,h3,Imm.int _ _⟩
 | 4,hj=>cases hj;exact⟨_,h4,Imm.int _ _⟩
 | 5,hj=>cases hj;exact⟨_,h5,Imm.int _ _⟩
 | 6,hj=>cases hj;exact⟨_,h6,Imm.int _ _⟩
 | 7,hj=>cases hj;exact⟨_,h7,Imm.int _ _⟩
 | 8,hj=>cases hj;exact⟨_,h8,Imm.int _ _⟩
 | 9,hj=>cases hj;exact⟨_,h9,Imm.int _ _⟩
 | 10,hj=>cases hj;exact⟨_,ha,Imm.str _⟩
 | j+11,hj=>exact absurd (List.getElem?_eq_some_iff.1 hj).1 (by simp only[Ev.row,zC,zN];omega)
end Go.Proofs.YtpppoklkijmeoaaGreatDoor.W
namespace Go.Proofs.YtpppoklkijmeoaaGreatDoor.W
open Go Go.RowKit Go.Proofs Go.Proofs.YtpppoklkijmeoaaGreatDoor.VL Go.Proofs.YtpppoklkijmeoaaGreatDoor.M
attribute [local go_sem] qne qz5 q1j
theorem q2o {α:Type} (A R:List α) (x d:α):(A++x::R).getD A.length d=x:=by simp[List.getD]
theorem q2p {α:Type} (A R:List α) (x y:α):(A++x::R).set A.length y=A++y::R:=by simp[List.set_append]
def ic80:IC:=sR [oP 1 (.box 45 (.t 0)),oP 2 (.alloc 52 [i0,i0])] (sR [oP 3 (.alloc 52 [i0,i0])] (sR [fD 4 0 1,lD 5 1 4,fD 6 0 3,nP (.sto 1 (.t 6) (.t 5))] (sR [fD 7 1 1,lD 8 1 7,fD 9 1 3,nP (.sto 1 (.t 9) (.t 8))] (sR [lA 10 2 3,nP (.sto 2 (.t 2) (.t 10))] .ret))))
theorem dg80:Dg Tryz.prog 80 Tryz.f80 ic80 [(.cell 2 2 true)]:=⟨Tryz.func80,by kernel_rfl,by kernel_rfl⟩
theorem c80 (e:E):FnR Tryz.prog G 80 [.agg [.int .i64 e.a,.int .i64 e.p]] (.agg [.int .i64 e.a,.int .i64 e.p]):=by
 refine mF dg80 Tryz.ntmps80 ?_
 simp only[ic80,go_sem]
 with_reducible repeat' (first|refine br ?_ ?_<;>intro h e<;>(try simp only[e,go_sem])<;>clear e|rw[q00 (by omega)]|refine sd ?_<;>try simp only[go_sem]|fail)
def ic41:IC:=sR [oP 1 (.box 47 (.t 0)),oP 2 (.alloc 54 [i0,i0,i0,i0,i0,i0,s0])] (sR [oP 3 (.alloc 54 [i0,i0,i0,i0,i0,i0,s0])] (sR [fD 4 0 1,lD 5 1 4,fD 6 0 3,nP (.sto 1 (.t 6) (.t 5))] (sR [fD 7 1 1,lA 8 2 7,oP 9 (.call 80 [.t 8]),fD 10 1 3,nP (.sto 2 (.t 10) (.t 9))] (sR [fD 11 3 1,lA 12 2 11,oP 13 (.call 80 [.t 12]),fD 14 3 3,nP (.sto 2 (.t 14) (.t 13))] (sR [fD 15 5 1,lD 16 1 15,fD 17 5 3,nP (.sto 1 (.t 17) (.t 16))] (sR [fD 18 6 1,lD 19 1 18,fD 20 6 3,nP (.sto 1 (.t 20) (.t 19))] (sR [lA 21 7 3,nP (.sto 7 (.t 2) (.t 21))] .ret)))))))
theorem dg41:Dg Tryz.prog 41 Tryz.f41 ic41 [(.cell 2 7 true)]:=⟨Tryz.func41,by kernel_rfl,by kernel_rfl⟩
theorem c41 (x:Pk):FnR Tryz.prog G 41 [.agg [.int .i64 x.kind,.int .i64 x.frm.a,.int .i64 x.frm.p,.int .i64 x.to.a,.int .i64 x.to.p,.int .i64 x.at_,.str x.text]] (.agg [.int .i64 x.kind,.int .i64 x.frm.a,.int .i64 x.frm.p,.int .i64 x.to.a,.int .i64 x.to.p,.int .i64 x.at_,.str x.text]):=by
 refine mF dg41 Tryz.ntmps41 ?_
 simp only[ic41,go_sem]
 have c1:=c80 x.frm
 have c2:=c80 x.to
 with_reducible repeat' (first|refine br ?_ ?_<;>intro h e<;>(try simp only[e,go_sem])<;>clear e|rw[q00 (by omega)]|refine sd ?_<;>try simp only[go_sem]|(first|refine cr (c1 ..) ?_|refine cr (c2 ..) ?_)<;>try simp only[go_sem]|fail)
def ic52:IC:=sR [oP 1 (.box 80 (.t 0)),oP 2 (.alloc 91 [i0,i0,i0,i0,s0,s0,i0,i0,s0,s0])] (sR [oP 3 (.alloc 91 [i0,i0,i0,i0,s0,s0,i0,i0,s0,s0])] (sR [fD 4 0 1,lA 5 2 4,oP 6 (.call 80 [.t 5]),fD 7 0 3,nP (.sto 2 (.t 7) (.t 6))] (sR [fD 8 2 1,lA 9 2 8,oP 10 (.call 80 [.t 9]),fD 11 2 3,nP (.sto 2 (.t 11) (.t 10))] (sR [fD 12 4 1,lD 13 1 12,fD 14 4 3,nP (.sto 1 (.t 14) (.t 13))] (sR [fD 15 5 1,lD 16 1 15,fD 17 5 3,nP (.sto 1 (.t 17) (.t 16))] (sR [fD 18 6 1,lD 19 1 18,fD 20 6 3,nP (.sto 1 (.t 20) (.t 19))] (sR [fD 21 7 1,lD 22 1 21,fD 23 7 3,nP (.sto 1 (.t 23) (.t 22))] (sR [fD 24 8 1,lD 25 1 24,fD 26 8 3,nP (.sto 1 (.t 26) (.t 25))] (sR [fD 27 9 1,lD 28 1 27,fD 29 9 3,nP (.sto 1 (.t 29) (.t 28))] (sR [lA 30 10 3,nP (.sto 10 (.t 2) (.t 30))] .ret))))))))))
theorem dg52:Dg Tryz.prog 52 Tryz.f52 ic52 [(.cell 2 10 true)]:=⟨Tryz.func52,by kernel_rfl,by kernel_rfl⟩
theorem c52 (x:Conv):FnR Tryz.prog G 52 [.agg [.int .i64 x.ins.a,.int .i64 x.ins.p,.int .i64 x.out.a,.int .i64 x.out.p,.str x.up,.str x.down,.int .i64 x.upAck,.int .i64 x.downAck,.str x.upGot,.str x.downGot]] (.agg [.int .i64 x.ins.a,.int .i64 x.ins.p,.int .i64 x.out.a,.int .i64 x.out.p,.str x.up,.str x.down,.int .i64 x.upAck,.int .i64 x.downAck,.str x.upGot,.str x.downGot]):=by
 refine mF dg52 Tryz.ntmps52 ?_
 simp only[ic52,go_sem]
 have c1:=c80 x.ins
 have c2:=c80 x.out
 with_reducible repeat' (first|refine br ?_ ?_<;>intro h e<;>(try simp only[e,go_sem])<;>clear e|rw[q00 (by omega)]|refine sd ?_<;>try simp only[go_sem]|(first|refine cr (c1 ..) ?_|refine cr (c2 ..) ?_)<;>try simp only[go_sem]|fail)
def ic14:IC:=sR [oP 1 (.box 49 (.t 0)),oP 2 (.alloc 56 [i0,i0,i0,i0,i0,i0,i0,i0,i0,i0,s0])] (sR [oP 3 (.alloc 56 [i0,i0,i0,i0,i0,i0,i0,i0,i0,i0,s0])] (sR [fD 4 0 1,lD 5 1 4,fD 6 0 3,nP (.sto 1 (.t 6) (.t 5))] (sR [fD 7 1 1,lD 8 1 7,fD 9 1 3,nP (.sto 1 (.t 9) (.t 8))] (sR [fD 10 2 1,lD 11 1 10,fD 12 2 3,nP (.sto 1 (.t 12) (.t 11))] (sR [fD 13 3 1,lD 14 1 13,fD 15 3 3,nP (.sto 1 (.t 15) (.t 14))] (sR [fD 16 4 1,lA 17 7 16,oP 18 (.call 41 [.t 17]),fD 19 4 3,nP (.sto 7 (.t 19) (.t 18))] (sR [lA 20 11 3,nP (.sto 11 (.t 2) (.t 20))] .ret)))))))
theorem dg14:Dg Tryz.prog 14 Tryz.f14 ic14 [(.cell 2 11 true)]:=⟨Tryz.func14,by kernel_rfl,by kernel_rfl⟩
theorem c14 (x:Ev):FnR Tryz.prog G 14 [.agg [.int .i64 x.kind,.int .i64 x.a,.int .i64 x.b,.int .i64 x.c,.int .i64 x.pkt.kind,.int .i64 x.pkt.frm.a,.int .i64 x.pkt.frm.p,.int .i64 x.pkt.to.a,.int .i64 x.pkt.to.p,.int .i64 x.pkt.at_,.str x.pkt.text]] (.agg [.int .i64 x.kind,.int .i64 x.a,.int .i64 x.b,.int .i64 x.c,.int .i64 x.pkt.kind,.int .i64 x.pkt.frm.a,.int .i64 x.pkt.frm.p,.int .i64 x.pkt.to.a,.int .i64 x.pkt.to.p,.int .i64 x.pkt.at_,.str x.pkt.text]):=by
 refine mF dg14 Tryz.ntmps14 ?_
 simp only[ic14,go_sem]
 have c1:=c41 x.pkt
 have c2:=c1
 with_reducible repeat' (first|refine br ?_ ?_<;>intro h e<;>(try simp only[e,go_sem])<;>clear e|rw[q00 (by omega)]|refine sd ?_<;>try simp only[go_sem]|(first|refine cr (c1 ..) ?_|refine cr (c2 ..) ?_)<;>try simp only[go_sem]|fail)
def ic23:IC:=sR [oP 2 (.mv (.c .nils))] (sR [mV 5 0,oP 6 (.len (.t 5)),oP 7 (.mkl 91 10 [i0,i0,i0,i0,s0,s0,i0,i0,s0,s0] (.t 6)),mV 3 7] (.seq (sR [oP 4 (.mv (.c i0))] (.block 0 (.loop (.seq (sR [mV 8 4,mV 9 0,oP 10 (.len (.t 9)),bN 11 .lss 8 10] (cD 11 .skip (.exit 0))) (.seq (.block 1 (.reg [mV 14 3,mV 15 4,mV 16 0,mV 17 4,oP 18 (.iad 10 (.t 16) (.t 17)),lA 19 10 18,oP 20 (.call 52 [.t 19]),oP 21 (.iad 10 (.t 14) (.t 15)),nP (.sto 10 (.t 21) (.t 20))])) (.reg [mV 12 4,oP 13 (.bin .add (.t 12) (cI 1)),mV 4 13])))))) (sR [mV 22 3,mV 2 22] .ret)))
theorem dg23:Dg Tryz.prog 23 Tryz.f23 ic23 [(.t 2)]:=⟨Tryz.func23,by kernel_rfl,by kernel_rfl⟩
set_option maxHeartbeats 1000000 in
theorem c23 (l:List Conv) (hl:l.length≤1048576):FnP Tryz.prog G 23 0 [] [.sl 10 (l.map Conv.row)] (λr o=>r=.own 0 l.length∧o=[.arr 91 10 (l.map Conv.row)]):=by
 refine mP dg23 Tryz.ntmps23 ⟨_,_,rfl,rfl⟩ ?_
 simp only[ic23,go_sem]
 with_reducible repeat' (first|refine br ?_ ?_<;>intro h e<;>(try simp only[e,go_sem])<;>clear e|rw[q00 (by omega)]|refine sd ?_<;>try simp only[go_sem]|fail)
 obtain⟨Z,hZ⟩:∃Z:List V,Z=Conv.row default:=⟨_,rfl⟩
 refine q0d (λi:Nat=>⟨q0e [(0,.sl 10 (l.map Conv.row)),(3,.own 3000007 l.length),(4,.int .i64 (i:Int))],q01 [(3000007,.arr 91 10 ((l.take i).map Conv.row++List.replicate (l.length - i) Z))]⟩) (λi=>l.length - i) (λi=>i≤l.length) 0
  (leN [] (by simp only[go_sem];first|done|omega|rfl) (by simp only[go_sem,List.take_zero,List.map_nil,List.nil_append,Nat.sub_zero,hZ];first|done|rfl) (by simp[q0f]) (by simp only[go_sem])) (Nat.zero_le _) ?_
 intro i hi
 by_cases h:(i:Int)<l.length
 ·have hil:i<l.length:=by omega
  have hg:l.getD i default=l[i]:=by simp[List.getD,hil]
  have e1:List.replicate (l.length - i) Z=Z::List.replicate (l.length - (i+1)) Z:=by rw[show l.length - i=l.length - (i+1)+1 by omega,List.replicate_succ]
  have e0:l.take (i+1)=l.take i++[l[i]]:=by rw[List.take_add_one];simp[hil]
  have e2:(l.take (i+1)).map Conv.row=(l.take i).map Conv.row++[Conv.row l[i]]:=by rw[e0,List.map_append];rfl
  have hZd:Z.drop 10=[]:=by rw[hZ];rfl
  obtain⟨A,hA⟩:∃A,(l.take i).map Conv.row=A:=⟨_,rfl⟩
  have hAl:A.length=i:=by rw[←hA];simp;omega
  have g1:=q2p A (List.replicate (l.length - (i+1)) Z)
  have g2:=q2o A (List.replicate (l.length - (i+1)) Z)
  rw[hAl] at g1 g2
  have c1:=c52 l[i]
  have lA:(A++Z::List.replicate (l.length - (i+1)) Z).length=l.length:=by simp[hAl];omega
  simp only[hA,e1]
  simp only[eq_true h,go_sem]
  with_reducible repeat' (first|refine br ?_ ?_<;>intro h e<;>(try simp only[e,go_sem,hg,g1,g2,lA,hZd])<;>clear e|rw[q00 (by omega)]|refine sd ?_<;>try simp only[go_sem,hg,g1,g2,lA,hZd]|(first|refine cr (c1 ..) ?_)<;>try simp only[go_sem,hg,g1,g2,lA,hZd]|fail)
  exact⟨i+1,by omega,by omega,leN [] (by simp only[go_sem];first|done|omega|rfl) (by simp only[go_sem,e2,hA,List.append_assoc,hZd];first|done|rfl) (by simp[q0f]) (by simp only[go_sem])⟩
 ·simp only[eq_false h,go_sem]
  have:i=l.length:=by omega
  subst this
  simp only[List.take_length,Nat.sub_self,List.replicate_zero,List.append_nil]
  with_reducible repeat' (first|refine br ?_ ?_<;>intro h e<;>(try simp only[e,go_sem])<;>clear e|rw[q00 (by omega)]|refine sd ?_<;>try simp only[go_sem]|fail)
  exact q1h (.own 0 l.length) [.arr 91 10 (l.map Conv.row)] [(0,3000007)] (by simp only[go_sem]) ⟨rfl,rfl⟩ (by simp only[go_sem]) (by simp[q11,q0f]) (by simp only[go_sem])
def ic43:IC:=sR [oP 2 (.box 80 (.t 0)),oP 4 (.mv (.c i0))] (sR [mV 5 1,fD 6 4 2,lD 7 1 6,oP 8 (.lens (.t 7)),bN 9 .sub 5 8,mV 1 9] (.seq (sR [mV 10 1,oP 11 (.bin .lss (.t 10) (.c i0))] (cD 11 (sR [oP 4 (.mv (.c (.int .i64 (-1))))] .ret) .skip)) (sR [mV 12 1,fD 13 5 2,lD 14 1 13,oP 15 (.lens (.t 14)),bN 16 .sub 12 15,mV 1 16] (.seq (sR [mV 17 1,oP 18 (.bin .lss (.t 17) (.c i0))] (cD 18 (sR [oP 4 (.mv (.c (.int .i64 (-1))))] .ret) .skip)) (sR [mV 19 1,fD 20 8 2,lD 21 1 20,oP 22 (.lens (.t 21)),bN 23 .sub 19 22,mV 1 23] (.seq (sR [mV 24 1,oP 25 (.bin .lss (.t 24) (.c i0))] (cD 25 (sR [oP 4 (.mv (.c (.int .i64 (-1))))] .ret) .skip)) (sR [mV 26 1,fD 27 9 2,lD 28 1 27,oP 29 (.lens (.t 28)),bN 30 .sub 26 29,mV 1 30] (.seq (sR [mV 31 1,oP 32 (.bin .lss (.t 31) (.c i0))] (cD 32 (sR [oP 4 (.mv (.c (.int .i64 (-1))))] .ret) .skip)) (sR [mV 33 1,mV 4 33] .ret)))))))))
theorem dg43:Dg Tryz.prog 43 Tryz.f43 ic43 [(.t 4)]:=⟨Tryz.func43,by kernel_rfl,by kernel_rfl⟩
theorem c43 (c:Conv) (l:Int) (hc:qzn c) (hl:0≤l∧l≤1048576):FnR Tryz.prog G 43 [.agg [.int .i64 c.ins.a,.int .i64 c.ins.p,.int .i64 c.out.a,.int .i64 c.out.p,.str c.up,.str c.down,.int .i64 c.upAck,.int .i64 c.downAck,.str c.upGot,.str c.downGot],.int .i64 l] (.int .i64 (szC l c)):=by
 refine mF dg43 Tryz.ntmps43 ?_
 obtain⟨h1,h2,h3,h4⟩:=hc
 simp only[ic43,go_sem]
 with_reducible repeat' (first|rw[q00 (by omega)];try simp only[go_sem]|refine br ?_ ?_<;>intro h e<;>(try simp only[e,go_sem])<;>clear e|refine sd ?_<;>try simp only[go_sem]|fail)
 all_goals(simp only[szC,sz1,qff]<;>simp_all)
 all_goals omega
def ic39:IC:=sR [oP 2 (.box 47 (.t 0)),oP 4 (.mv (.c i0))] (sR [mV 5 1,fD 6 6 2,lD 7 1 6,oP 8 (.lens (.t 7)),bN 9 .sub 5 8,mV 1 9] (.seq (sR [mV 10 1,oP 11 (.bin .lss (.t 10) (.c i0))] (cD 11 (sR [oP 4 (.mv (.c (.int .i64 (-1))))] .ret) .skip)) (sR [mV 12 1,mV 4 12] .ret)))
theorem dg39:Dg Tryz.prog 39 Tryz.f39 ic39 [(.t 4)]:=⟨Tryz.func39,by kernel_rfl,by kernel_rfl⟩
theorem c39 (p:Pk) (l:Int) (hp:(p.text.length:Int)≤9223372036854775807) (hl:0≤l∧l≤1048576):FnR Tryz.prog G 39 [.agg [.int .i64 p.kind,.int .i64 p.frm.a,.int .i64 p.frm.p,.int .i64 p.to.a,.int .i64 p.to.p,.int .i64 p.at_,.str p.text],.int .i64 l] (.int .i64 (qff l p.text.length)):=by
 refine mF dg39 Tryz.ntmps39 ?_
 simp only[ic39,go_sem]
 with_reducible repeat' (first|rw[q00 (by omega)];try simp only[go_sem]|refine br ?_ ?_<;>intro h e<;>(try simp only[e,go_sem])<;>clear e|refine sd ?_<;>try simp only[go_sem]|fail)
 all_goals(simp only[qff]<;>simp_all)
 all_goals omega
def ic12:IC:=sR [oP 2 (.box 49 (.t 0)),oP 4 (.mv (.c i0))] (sR [fD 5 4 2,lA 6 7 5,mV 7 1,oP 8 (.call 39 [.t 6,.t 7]),mV 1 8] (.seq (sR [mV 9 1,oP 10 (.bin .lss (.t 9) (.c i0))] (cD 10 (sR [oP 4 (.mv (.c (.int .i64 (-1))))] .ret) .skip)) (sR [mV 11 1,mV 4 11] .ret)))
theorem dg12:Dg Tryz.prog 12 Tryz.f12 ic12 [(.t 4)]:=⟨Tryz.func12,by kernel_rfl,by kernel_rfl⟩
theorem c12 (e:Ev) (l:Int) (hp:qtv e) (hl:0≤l∧l≤1048576):FnR Tryz.prog G 12 [.agg [.int .i64 e.kind,.int .i64 e.a,.int .i64 e.b,.int .i64 e.c,.int .i64 e.pkt.kind,.int .i64 e.pkt.frm.a,.int .i64 e.pkt.frm.p,.int .i64 e.pkt.to.a,.int .i64 e.pkt.to.p,.int .i64 e.pkt.at_,.str e.pkt.text],.int .i64 l] (.int .i64 (szE l e)):=by
 refine mF dg12 Tryz.ntmps12 ?_
 have c1:=c39 e.pkt l hp hl
 have hx:qff l e.pkt.text.length<0→qff l e.pkt.text.length = -1:=by unfold qff;split<;>omega
 simp only[ic12,go_sem]
 with_reducible repeat' (first|refine br ?_ ?_<;>intro h e<;>(try simp only[e,go_sem])<;>clear e|rw[q00 (by omega)]|refine sd ?_<;>try simp only[go_sem]|(first|refine cr (c1 ..) ?_)<;>try simp only[go_sem]|fail)
 all_goals(simp only[szE]<;>simp_all)
theorem qrn (l:Int) (c:Conv) (h:szC l c<0):szC l c = -1:=by
 simp only[szC,sz1,qff] at *;(repeat split)<;>omega
def ic16:IC:=sR [oP 4 (.mv (.c i0))] (sR [mV 6 1,mV 7 0,oP 8 (.len (.t 7)),bN 9 .sub 6 8,mV 1 9] (.seq (sR [mV 10 1,oP 11 (.bin .lss (.t 10) (.c i0))] (cD 11 (sR [oP 4 (.mv (.c (.int .i64 (-1))))] .ret) .skip)) (.seq (sR [oP 5 (.mv (.c i0))] (.block 0 (.loop (.seq (sR [mV 12 5,mV 13 0,oP 14 (.len (.t 13)),bN 15 .lss 12 14] (cD 15 .skip (.exit 0))) (.seq (.block 1 (sR [mV 18 0,mV 19 5,oP 20 (.iad 10 (.t 18) (.t 19)),lA 21 10 20,mV 22 1,oP 23 (.call 43 [.t 21,.t 22]),mV 1 23] (sR [mV 24 1,oP 25 (.bin .lss (.t 24) (.c i0))] (cD 25 (sR [oP 4 (.mv (.c (.int .i64 (-1))))] .ret) .skip)))) (.reg [mV 16 5,oP 17 (.bin .add (.t 16) (cI 1)),mV 5 17])))))) (sR [mV 26 1,mV 4 26] .ret))))
theorem dg16:Dg Tryz.prog 16 Tryz.f16 ic16 [(.t 4)]:=⟨Tryz.func16,by kernel_rfl,by kernel_rfl⟩
set_option maxHeartbeats 1000000 in
theorem c16 (l:List Conv) (n:Int) (hll:(l.length:Int)≤9223372036854775807) (hb:∀c∈l,qzn c) (hn:0≤n∧n≤1048576):FnR Tryz.prog G 16 [.sl 10 (l.map Conv.row),.int .i64 n] (.int .i64 (szS szC n l)):=by
 refine mF dg16 Tryz.ntmps16 ?_
 simp only[ic16,go_sem]
 with_reducible repeat' (first|rw[q00 (by omega)];try simp only[go_sem]|refine br ?_ ?_<;>intro h e<;>(try simp only[e,go_sem])<;>clear e|refine sd ?_<;>try simp only[go_sem]|fail)
 ·rw[szS,if_pos (by omega)]
 have hs:szS szC n l=szL szC (n - l.length) l:=by rw[szS,if_neg (by omega)]
 rw[hs]
 refine q0d (λa:Nat×Int=>⟨q0e [(0,.sl 10 (l.map Conv.row)),(1,.int .i64 a.2),(5,.int .i64 (a.1:Int))],q01 []⟩) (λa=>l.length - a.1) (λa=>a.1≤l.length∧(0≤a.2∧a.2≤1048576)∧szL szC (n - l.length) l=szL szC a.2 (l.drop a.1)) (0,n - l.length) (leQ []) ⟨Nat.zero_le _,by omega,rfl⟩ ?_
 intro⟨i,m⟩ ⟨hi,hm,he⟩
 simp only at hi hm he
 simp only[go_sem]
 by_cases h:(i:Int)<l.length
 ·have hil:i<l.length:=by omega
  have hg:l.getD i default=l[i]:=by simp[List.getD,hil]
  rw[List.drop_eq_getElem_cons hil,szL] at he
  have c1:=c43 l[i] m (hb _ (List.getElem_mem hil)) hm
  have hne:=qrn m l[i]
  have hle:=@qn4 m l[i]
  simp only[eq_true h,go_sem]
  with_reducible repeat' (first|refine br ?_ ?_<;>intro h e<;>(try simp only[e,go_sem,hg])<;>clear e|rw[q00 (by omega)]|refine sd ?_<;>try simp only[go_sem,hg]|(first|refine cr (c1 ..) ?_)<;>try simp only[go_sem,hg]|fail)
  ·rw[he,if_pos (by assumption)]
  ·rw[if_neg (by omega)] at he
   exact⟨(i+1,szC m l[i]),by simp only;omega,⟨by simp only;omega,by simp only;have:=hle (by omega);omega,he⟩,(leQ [])⟩
 ·simp only[eq_false h,go_sem]
  have:i=l.length:=by omega
  subst this
  rw[List.drop_length,szL] at he
  rw[he]
  with_reducible repeat' (first|refine br ?_ ?_<;>intro h e<;>(try simp only[e,go_sem])<;>clear e|rw[q00 (by omega)]|refine sd ?_<;>try simp only[go_sem]|fail)
theorem dgt_0 (out:B):dgt 0 out=out:=by rw[dgt];simp
theorem dgt_s {k:Nat} (h:0<k) (out:B):dgt k out=dgt (k / 10) (UInt8.ofNat (48+k % 10)::out):=by rw[dgt,dif_neg (by omega)]
def ic72:IC:=sR [oP 2 (.mv (.c s0))] (.seq (sR [mV 4 0,oP 5 (.bin .leq (.t 4) (.c i0))] (cD 5 (sR [oP 2 (.mv (.c (.str [109,48])))] .ret) .skip)) (sR [oP 3 (.mv (.c s0))] (.seq (.block 0 (.loop (.seq (sR [mV 6 0,oP 7 (.bin .gtr (.t 6) (.c i0))] (cD 7 .skip (.exit 0))) (.block 1 (sR [mV 8 0,oP 9 (.bin .rem (.t 8) (cI 10)),oP 10 (.bin .add (cI 48) (.t 9)),oP 11 (.cvi .u8 (.t 10)),oP 12 (.bsl 5 1 [.t 11]),oP 13 (.b2s (.t 12)),mV 14 3,bN 15 .add 13 14,mV 3 15] (.reg [mV 16 0,oP 17 (.bin .quo (.t 16) (cI 10)),mV 0 17])))))) (sR [mV 18 3,oP 19 (.bin .add (.c (.str [109])) (.t 18)),mV 2 19] .ret))))
theorem dg72:Dg Tryz.prog 72 Tryz.f72 ic72 [(.t 2)]:=⟨Tryz.func72,by kernel_rfl,by kernel_rfl⟩
set_option maxHeartbeats 1000000 in
theorem c72 (k:Int) (hk:k≤4611686018427387904):FnR Tryz.prog G 72 [.int .i64 k] (.str (mtx k)):=by
 refine mF dg72 Tryz.ntmps72 ?_
 simp only[ic72,go_sem]
 by_cases hk0:k≤0
 ·simp only[eq_true hk0,go_sem]
  with_reducible repeat' (first|refine br ?_ ?_<;>intro h e<;>(try simp only[e,go_sem])<;>clear e|rw[q00 (by omega)]|refine sd ?_<;>try simp only[go_sem]|fail)
  simp[mtx,hk0]
 simp only[eq_false hk0,go_sem]
 with_reducible repeat' (first|refine br ?_ ?_<;>intro h e<;>(try simp only[e,go_sem])<;>clear e|rw[q00 (by omega)]|refine sd ?_<;>try simp only[go_sem]|fail)
 obtain⟨n,rfl⟩:∃n:Nat,k=n:=⟨k.toNat,by omega⟩
 have hm:mtx (n:Int)=109::dgt n []:=by simp only[mtx,if_neg hk0,Int.toNat_natCast]
 rw[hm]
 refine q0d (λa:Nat×B=>⟨q0e [(0,.int .i64 (a.1:Int)),(3,.str a.2)],q01 []⟩) (λa=>a.1) (λa=>a.2.length+a.1≤n∧dgt n []=dgt a.1 a.2) (n,[]) (leQ []) ⟨by simp,rfl⟩ ?_
 intro⟨m,out⟩ ⟨hm1,hm2⟩
 simp only at hm1 hm2
 simp only[go_sem]
 by_cases h:(0:Int)<m
 ·simp only[eq_true h,go_sem]
  have q1:(m:Int).tmod 10=((m % 10:Nat):Int):=by rw[Int.tmod_eq_emod_of_nonneg (by omega)];omega
  have q2:(m:Int).tdiv 10=((m / 10:Nat):Int):=by rw[Int.tdiv_eq_ediv_of_nonneg (by omega)];omega
  have q3:IntKind.u8.wrap (48+((m % 10:Nat):Int))=((48+m % 10:Nat):Int):=by rw[u8w (by omega)];omega
  rw[@dgt_s m (by omega) out] at hm2
  with_reducible repeat' (first|rw[q00 (by omega)];try simp only[go_sem,q1,q2,q3,Int.toNat_natCast]|refine br ?_ ?_<;>intro h e<;>(try simp only[e,go_sem,q1,q2,q3,Int.toNat_natCast])<;>clear e|refine sd ?_<;>try simp only[go_sem,q1,q2,q3,Int.toNat_natCast]|fail)
  exact⟨(m / 10,UInt8.ofNat (48+m % 10)::out),by simp only;omega,⟨by simp only[zC];omega,hm2⟩,(leQ [])⟩
 ·simp only[eq_false h,go_sem]
  obtain rfl:m=0:=by omega
  rw[dgt_0] at hm2
  have:out.length≤n:=by omega
  with_reducible repeat' (first|refine br ?_ ?_<;>intro h e<;>(try simp only[e,go_sem])<;>clear e|rw[q00 (by omega)]|refine sd ?_<;>try simp only[go_sem]|fail)
  simp[hm2]
def ic73:IC:=sR [oP 4 (.mv (.c i0))] (.seq (sR [oP 5 (.mv (.c i0))] (.block 0 (.loop (.seq (sR [mV 6 5,mV 7 0,oP 8 (.len (.t 7)),bN 9 .lss 6 8] (cD 9 .skip (.exit 0))) (.seq (.block 1 (sR [mV 12 0,mV 13 5,mV 14 1,oP 15 (.iad 3 (.t 12) (.t 13)),fD 16 0 15,nP (.sto 1 (.t 16) (.t 14))] (sR [mV 17 1,oP 18 (.bin .add (.t 17) (cI 1)),mV 1 18] (sR [mV 19 0,mV 20 5,mV 21 1,oP 22 (.iad 3 (.t 19) (.t 20)),fD 23 1 22,fD 24 0 23,nP (.sto 1 (.t 24) (.t 21))] (sR [mV 25 1,oP 26 (.bin .add (.t 25) (cI 1)),mV 1 26] (sR [mV 27 0,mV 28 5,mV 29 1,oP 30 (.iad 3 (.t 27) (.t 28)),fD 31 1 30,fD 32 1 31,nP (.sto 1 (.t 32) (.t 29))] (.reg [mV 33 1,oP 34 (.bin .add (.t 33) (cI 1)),mV 1 34]))))))) (.reg [mV 10 5,oP 11 (.bin .add (.t 10) (cI 1)),mV 5 11])))))) (sR [mV 35 1,mV 4 35] .ret))
theorem dg73:Dg Tryz.prog 73 Tryz.f73 ic73 [(.t 4)]:=⟨Tryz.func73,by kernel_rfl,by kernel_rfl⟩
set_option maxHeartbeats 2000000 in
theorem c73 (l:List Pair) (k:Int) (hl:l.length≤1048576) (hk:0≤k∧k≤1000000000000000):FnP Tryz.prog G 73 1 [.arr 132 3 (l.map Pair.row)] [.own 0 l.length,.int .i64 k] (λr o=>r=.int .i64 (k+3*l.length)∧o=[.arr 132 3 ((mkS qa0 3 k l.length).map Pair.row)]):=by
 refine mP dg73 Tryz.ntmps73 ⟨_,_,rfl,rfl⟩ ?_
 simp only[ic73,go_sem]
 with_reducible repeat' (first|refine br ?_ ?_<;>intro h e<;>(try simp only[e,go_sem])<;>clear e|rw[q00 (by omega)]|refine sd ?_<;>try simp only[go_sem]|fail)
 refine q0d (λi:Nat=>⟨q0e [(0,.own 0 l.length),(1,.int .i64 (k+3*i)),(5,.int .i64 (i:Int))],q01 [(0,.arr 132 3 ((mkS qa0 3 k i).map Pair.row++(l.drop i).map Pair.row))]⟩) (λi=>l.length - i) (λi=>i≤l.length) 0
  (leN [] (by simp only[go_sem];first|done|simp) (by simp only[go_sem,qmu,List.map_nil,List.nil_append,List.drop_zero];first|done|rfl) (by simp[q0f]) (by simp only[go_sem])) (Nat.zero_le _) ?_
 intro i hi
 by_cases h:(i:Int)<l.length
 ·have hil:i<l.length:=by omega
  rw[List.drop_eq_getElem_cons hil,List.map_cons]
  obtain⟨kk,hkk⟩:∃kk,k+3*(i:Int)=kk:=⟨_,rfl⟩
  have e2:(mkS qa0 3 k (i+1)).map Pair.row=(mkS qa0 3 k i).map Pair.row++[Pair.row (qa0 kk)]:=by rw[q82,hkk];simp
  have e3:k+3*((i+1:Nat):Int)=kk+3:=by omega
  obtain⟨A,hA⟩:∃A,(mkS qa0 3 k i).map Pair.row=A:=⟨_,rfl⟩
  have hAl:A.length=i:=by rw[←hA];simp[q0o]
  obtain⟨R,hR⟩:∃R,(l.drop (i+1)).map Pair.row=R:=⟨_,rfl⟩
  have hRl:R.length=l.length - (i+1):=by rw[←hR];simp
  have g1:=q2p A R
  have g2:=q2o A R
  rw[hAl] at g1 g2
  have hkb:0≤kk∧kk≤2000000000000000:=by omega
  have lA:∀x,(A++x::R).length=l.length:=λx=>by simp[hAl,hRl];omega
  generalize l[i]=c
  simp only[hA,hR,hkk]
  simp only[eq_true h,go_sem,lA]
  with_reducible repeat' (first|rw[q00 (by omega)];try simp only[go_sem,g1,g2,lA,Int.add_assoc,Int.reduceAdd]|refine br ?_ ?_<;>intro h e<;>(try simp only[e,go_sem,g1,g2,lA,Int.add_assoc,Int.reduceAdd])<;>clear e|refine sd ?_<;>try simp only[go_sem,g1,g2,lA,Int.add_assoc,Int.reduceAdd]|fail)
  exact⟨i+1,by omega,by omega,leN [] (by simp only[go_sem,e3];first|done|omega|rfl) (by simp only[go_sem,e2,hA,hR,List.append_assoc,qa0,Int.add_assoc,Int.reduceAdd];first|done|rfl) (by simp[q0f]) (by simp only[go_sem])⟩
 ·simp only[eq_false h,go_sem]
  have:i=l.length:=by omega
  subst this
  simp only[List.drop_length,List.map_nil,List.append_nil]
  with_reducible repeat' (first|refine br ?_ ?_<;>intro h e<;>(try simp only[e,go_sem])<;>clear e|rw[q00 (by omega)]|refine sd ?_<;>try simp only[go_sem]|fail)
  exact q1h (.int .i64 (k+3*l.length)) [.arr 132 3 ((mkS qa0 3 k l.length).map Pair.row)] [] (by simp only[go_sem]) ⟨rfl,rfl⟩ (by simp only[go_sem]) (by simp[q11,q0f]) (by simp only[go_sem])
def qtf:IC:=sR [oP 4 (.mv (.c i0))] (.seq (sR [oP 5 (.mv (.c i0))] (.block 0 (.loop (.seq (sR [mV 6 5,mV 7 0,oP 8 (.len (.t 7)),bN 9 .lss 6 8] (cD 9 .skip (.exit 0))) (.seq (.block 1 (sR [mV 12 0,mV 13 5,mV 14 1,oP 15 (.iad 2 (.t 12) (.t 13)),fD 16 0 15,nP (.sto 1 (.t 16) (.t 14))] (sR [mV 17 1,oP 18 (.bin .add (.t 17) (cI 1)),mV 1 18] (sR [mV 19 0,mV 20 5,mV 21 1,oP 22 (.call 72 [.t 21]),oP 23 (.iad 2 (.t 19) (.t 20)),fD 24 1 23,nP (.sto 1 (.t 24) (.t 22))] (.reg [mV 25 1,oP 26 (.bin .add (.t 25) (cI 1)),mV 1 26]))))) (.reg [mV 10 5,oP 11 (.bin .add (.t 10) (cI 1)),mV 5 11])))))) (sR [mV 27 1,mV 4 27] .ret))
theorem dg118:Dg Tryz.prog 118 Tryz.f118 qtf [(.t 4)]:=⟨Tryz.func118,by kernel_rfl,by kernel_rfl⟩
set_option maxHeartbeats 2000000 in
theorem c118 (l:List Part) (k:Int) (hl:l.length≤1048576) (hk:0≤k∧k≤1000000000000000):FnP Tryz.prog G 118 1 [.arr 167 2 (l.map Part.row)] [.own 0 l.length,.int .i64 k] (λr o=>r=.int .i64 (k+2*l.length)∧o=[.arr 167 2 ((mkS qag 2 k l.length).map Part.row)]):=by
 refine mP dg118 Tryz.ntmps118 ⟨_,_,rfl,rfl⟩ ?_
 simp only[qtf,go_sem]
 with_reducible repeat' (first|refine br ?_ ?_<;>intro h e<;>(try simp only[e,go_sem])<;>clear e|rw[q00 (by omega)]|refine sd ?_<;>try simp only[go_sem]|fail)
 refine q0d (λi:Nat=>⟨q0e [(0,.own 0 l.length),(1,.int .i64 (k+2*i)),(5,.int .i64 (i:Int))],q01 [(0,.arr 167 2 ((mkS qag 2 k i).map Part.row++(l.drop i).map Part.row))]⟩) (λi=>l.length - i) (λi=>i≤l.length) 0
  (leN [] (by simp only[go_sem];first|done|simp) (by simp only[go_sem,qmu,List.map_nil,List.nil_append,List.drop_zero];first|done|rfl) (by simp[q0f]) (by simp only[go_sem])) (Nat.zero_le _) ?_
 intro i hi
 by_cases h:(i:Int)<l.length
 ·have hil:i<l.length:=by omega
  rw[List.drop_eq_getElem_cons hil,List.map_cons]
  obtain⟨kk,hkk⟩:∃kk,k+2*(i:Int)=kk:=⟨_,rfl⟩
  have e2:(mkS qag 2 k (i+1)).map Part.row=(mkS qag 2 k i).map Part.row++[Part.row (qag kk)]:=by rw[q82,hkk];simp
  have e3:k+2*((i+1:Nat):Int)=kk+2:=by omega
  obtain⟨A,hA⟩:∃A,(mkS qag 2 k i).map Part.row=A:=⟨_,rfl⟩
  have hAl:A.length=i:=by rw[←hA];simp[q0o]
  obtain⟨R,hR⟩:∃R,(l.drop (i+1)).map Part.row=R:=⟨_,rfl⟩
  have hRl:R.length=l.length - (i+1):=by rw[←hR];simp
  have g1:=q2p A R
  have g2:=q2o A R
  rw[hAl] at g1 g2
  have hkb:0≤kk∧kk≤2000000000000000:=by omega
  have lA:∀x,(A++x::R).length=l.length:=λx=>by simp[hAl,hRl];omega
  generalize l[i]=c
  simp only[hA,hR,hkk]
  simp only[eq_true h,go_sem,lA]
  with_reducible repeat' (first|rw[q00 (by omega)];try simp only[go_sem,g1,g2,lA,Int.add_assoc,Int.reduceAdd]|refine br ?_ ?_<;>intro h e<;>(try simp only[e,go_sem,g1,g2,lA,Int.add_assoc,Int.reduceAdd])<;>clear e|refine sd ?_<;>try simp only[go_sem,g1,g2,lA,Int.add_assoc,Int.reduceAdd]|(first|refine cr (c72 _ (by omega)) ?_)<;>try simp only[go_sem,g1,g2,lA,Int.add_assoc,Int.reduceAdd]|fail)
  exact⟨i+1,by omega,by omega,leN [] (by simp only[go_sem,e3];first|done|omega|rfl) (by simp only[go_sem,e2,hA,hR,List.append_assoc,qag,Int.add_assoc,Int.reduceAdd];first|done|rfl) (by simp[q0f]) (by simp only[go_sem])⟩
 ·simp only[eq_false h,go_sem]
  have:i=l.length:=by omega
  subst this
  simp only[List.drop_length,List.map_nil,List.append_nil]
  with_reducible repeat' (first|refine br ?_ ?_<;>intro h e<;>(try simp only[e,go_sem])<;>clear e|rw[q00 (by omega)]|refine sd ?_<;>try simp only[go_sem]|fail)
  exact q1h (.int .i64 (k+2*l.length)) [.arr 167 2 ((mkS qag 2 k l.length).map Part.row)] [] (by simp only[go_sem]) ⟨rfl,rfl⟩ (by simp only[go_sem]) (by simp[q11,q0f]) (by simp only[go_sem])
def ic35:IC:=sR [oP 4 (.mv (.c i0))] (.seq (sR [oP 5 (.mv (.c i0))] (.block 0 (.loop (.seq (sR [mV 6 5,mV 7 0,oP 8 (.len (.t 7)),bN 9 .lss 6 8] (cD 9 .skip (.exit 0))) (.seq (.block 1 (sR [mV 12 0,mV 13 5,mV 14 1,oP 15 (.iad 7 (.t 12) (.t 13)),fD 16 0 15,nP (.sto 1 (.t 16) (.t 14))] (sR [mV 17 1,oP 18 (.bin .add (.t 17) (cI 1)),mV 1 18] (sR [mV 19 0,mV 20 5,mV 21 1,oP 22 (.iad 7 (.t 19) (.t 20)),fD 23 1 22,fD 24 0 23,nP (.sto 1 (.t 24) (.t 21))] (sR [mV 25 1,oP 26 (.bin .add (.t 25) (cI 1)),mV 1 26] (sR [mV 27 0,mV 28 5,mV 29 1,oP 30 (.iad 7 (.t 27) (.t 28)),fD 31 1 30,fD 32 1 31,nP (.sto 1 (.t 32) (.t 29))] (sR [mV 33 1,oP 34 (.bin .add (.t 33) (cI 1)),mV 1 34] (sR [mV 35 0,mV 36 5,mV 37 1,oP 38 (.iad 7 (.t 35) (.t 36)),fD 39 3 38,fD 40 0 39,nP (.sto 1 (.t 40) (.t 37))] (sR [mV 41 1,oP 42 (.bin .add (.t 41) (cI 1)),mV 1 42] (sR [mV 43 0,mV 44 5,mV 45 1,oP 46 (.iad 7 (.t 43) (.t 44)),fD 47 3 46,fD 48 1 47,nP (.sto 1 (.t 48) (.t 45))] (sR [mV 49 1,oP 50 (.bin .add (.t 49) (cI 1)),mV 1 50] (sR [mV 51 0,mV 52 5,mV 53 1,oP 54 (.iad 7 (.t 51) (.t 52)),fD 55 5 54,nP (.sto 1 (.t 55) (.t 53))] (sR [mV 56 1,oP 57 (.bin .add (.t 56) (cI 1)),mV 1 57] (sR [mV 58 0,mV 59 5,mV 60 1,oP 61 (.call 72 [.t 60]),oP 62 (.iad 7 (.t 58) (.t 59)),fD 63 6 62,nP (.sto 1 (.t 63) (.t 61))] (.reg [mV 64 1,oP 65 (.bin .add (.t 64) (cI 1)),mV 1 65]))))))))))))))) (.reg [mV 10 5,oP 11 (.bin .add (.t 10) (cI 1)),mV 5 11])))))) (sR [mV 66 1,mV 4 66] .ret))
theorem dg35:Dg Tryz.prog 35 Tryz.f35 ic35 [(.t 4)]:=⟨Tryz.func35,by kernel_rfl,by kernel_rfl⟩
set_option maxHeartbeats 2000000 in
theorem c35 (l:List Pk) (k:Int) (hl:l.length≤1048576) (hk:0≤k∧k≤1000000000000000):FnP Tryz.prog G 35 1 [.arr 54 7 (l.map Pk.row)] [.own 0 l.length,.int .i64 k] (λr o=>r=.int .i64 (k+7*l.length)∧o=[.arr 54 7 ((mkS qbk 7 k l.length).map Pk.row)]):=by
 refine mP dg35 Tryz.ntmps35 ⟨_,_,rfl,rfl⟩ ?_
 simp only[ic35,go_sem]
 with_reducible repeat' (first|refine br ?_ ?_<;>intro h e<;>(try simp only[e,go_sem])<;>clear e|rw[q00 (by omega)]|refine sd ?_<;>try simp only[go_sem]|fail)
 refine q0d (λi:Nat=>⟨q0e [(0,.own 0 l.length),(1,.int .i64 (k+7*i)),(5,.int .i64 (i:Int))],q01 [(0,.arr 54 7 ((mkS qbk 7 k i).map Pk.row++(l.drop i).map Pk.row))]⟩) (λi=>l.length - i) (λi=>i≤l.length) 0
  (leN [] (by simp only[go_sem];first|done|simp) (by simp only[go_sem,qmu,List.map_nil,List.nil_append,List.drop_zero];first|done|rfl) (by simp[q0f]) (by simp only[go_sem])) (Nat.zero_le _) ?_
 intro i hi
 by_cases h:(i:Int)<l.length
 ·have hil:i<l.length:=by omega
  rw[List.drop_eq_getElem_cons hil,List.map_cons]
  obtain⟨kk,hkk⟩:∃kk,k+7*(i:Int)=kk:=⟨_,rfl⟩
  have e2:(mkS qbk 7 k (i+1)).map Pk.row=(mkS qbk 7 k i).map Pk.row++[Pk.row (qbk kk)]:=by rw[q82,hkk];simp
  have e3:k+7*((i+1:Nat):Int)=kk+7:=by omega
  obtain⟨A,hA⟩:∃A,(mkS qbk 7 k i).map Pk.row=A:=⟨_,rfl⟩
  have hAl:A.length=i:=by rw[←hA];simp[q0o]
  obtain⟨R,hR⟩:∃R,(l.drop (i+1)).map Pk.row=R:=⟨_,rfl⟩
  have hRl:R.length=l.length - (i+1):=by rw[←hR];simp
  have g1:=q2p A R
  have g2:=q2o A R
  rw[hAl] at g1 g2
  have hkb:0≤kk∧kk≤2000000000000000:=by omega
  have lA:∀x,(A++x::R).length=l.length:=λx=>by simp[hAl,hRl];omega
  generalize l[i]=c
  simp only[hA,hR,hkk]
  simp only[eq_true h,go_sem,lA]
  with_reducible repeat' (first|rw[q00 (by omega)];try simp only[go_sem,g1,g2,lA,Int.add_assoc,Int.reduceAdd]|refine br ?_ ?_<;>intro h e<;>(try simp only[e,go_sem,g1,g2,lA,Int.add_assoc,Int.reduceAdd])<;>clear e|refine sd ?_<;>try simp only[go_sem,g1,g2,lA,Int.add_assoc,Int.reduceAdd]|(first|refine cr (c72 _ (by omega)) ?_)<;>try simp only[go_sem,g1,g2,lA,Int.add_assoc,Int.reduceAdd]|fail)
  exact⟨i+1,by omega,by omega,leN [] (by simp only[go_sem,e3];first|done|omega|rfl) (by simp only[go_sem,e2,hA,hR,List.append_assoc,qbk,Int.add_assoc,Int.reduceAdd];first|done|rfl) (by simp[q0f]) (by simp only[go_sem])⟩
 ·simp only[eq_false h,go_sem]
  have:i=l.length:=by omega
  subst this
  simp only[List.drop_length,List.map_nil,List.append_nil]
  with_reducible repeat' (first|refine br ?_ ?_<;>intro h e<;>(try simp only[e,go_sem])<;>clear e|rw[q00 (by omega)]|refine sd ?_<;>try simp only[go_sem]|fail)
  exact q1h (.int .i64 (k+7*l.length)) [.arr 54 7 ((mkS qbk 7 k l.length).map Pk.row)] [] (by simp only[go_sem]) ⟨rfl,rfl⟩ (by simp only[go_sem]) (by simp[q11,q0f]) (by simp only[go_sem])
def ic33:IC:=sR [oP 4 (.mv (.c i0))] (.seq (sR [oP 5 (.mv (.c i0))] (.block 0 (.loop (.seq (sR [mV 6 5,mV 7 0,oP 8 (.len (.t 7)),bN 9 .lss 6 8] (cD 9 .skip (.exit 0))) (.seq (.block 1 (sR [mV 12 0,mV 13 5,mV 14 1,oP 15 (.iad 10 (.t 12) (.t 13)),fD 16 0 15,fD 17 0 16,nP (.sto 1 (.t 17) (.t 14))] (sR [mV 18 1,oP 19 (.bin .add (.t 18) (cI 1)),mV 1 19] (sR [mV 20 0,mV 21 5,mV 22 1,oP 23 (.iad 10 (.t 20) (.t 21)),fD 24 0 23,fD 25 1 24,nP (.sto 1 (.t 25) (.t 22))] (sR [mV 26 1,oP 27 (.bin .add (.t 26) (cI 1)),mV 1 27] (sR [mV 28 0,mV 29 5,mV 30 1,oP 31 (.iad 10 (.t 28) (.t 29)),fD 32 2 31,fD 33 0 32,nP (.sto 1 (.t 33) (.t 30))] (sR [mV 34 1,oP 35 (.bin .add (.t 34) (cI 1)),mV 1 35] (sR [mV 36 0,mV 37 5,mV 38 1,oP 39 (.iad 10 (.t 36) (.t 37)),fD 40 2 39,fD 41 1 40,nP (.sto 1 (.t 41) (.t 38))] (sR [mV 42 1,oP 43 (.bin .add (.t 42) (cI 1)),mV 1 43] (sR [mV 44 0,mV 45 5,mV 46 1,oP 47 (.call 72 [.t 46]),oP 48 (.iad 10 (.t 44) (.t 45)),fD 49 4 48,nP (.sto 1 (.t 49) (.t 47))] (sR [mV 50 1,oP 51 (.bin .add (.t 50) (cI 1)),mV 1 51] (sR [mV 52 0,mV 53 5,mV 54 1,oP 55 (.call 72 [.t 54]),oP 56 (.iad 10 (.t 52) (.t 53)),fD 57 5 56,nP (.sto 1 (.t 57) (.t 55))] (sR [mV 58 1,oP 59 (.bin .add (.t 58) (cI 1)),mV 1 59] (sR [mV 60 0,mV 61 5,mV 62 1,oP 63 (.iad 10 (.t 60) (.t 61)),fD 64 6 63,nP (.sto 1 (.t 64) (.t 62))] (sR [mV 65 1,oP 66 (.bin .add (.t 65) (cI 1)),mV 1 66] (sR [mV 67 0,mV 68 5,mV 69 1,oP 70 (.iad 10 (.t 67) (.t 68)),fD 71 7 70,nP (.sto 1 (.t 71) (.t 69))] (sR [mV 72 1,oP 73 (.bin .add (.t 72) (cI 1)),mV 1 73] (sR [mV 74 0,mV 75 5,mV 76 1,oP 77 (.call 72 [.t 76]),oP 78 (.iad 10 (.t 74) (.t 75)),fD 79 8 78,nP (.sto 1 (.t 79) (.t 77))] (sR [mV 80 1,oP 81 (.bin .add (.t 80) (cI 1)),mV 1 81] (sR [mV 82 0,mV 83 5,mV 84 1,oP 85 (.call 72 [.t 84]),oP 86 (.iad 10 (.t 82) (.t 83)),fD 87 9 86,nP (.sto 1 (.t 87) (.t 85))] (.reg [mV 88 1,oP 89 (.bin .add (.t 88) (cI 1)),mV 1 89]))))))))))))))))))))) (.reg [mV 10 5,oP 11 (.bin .add (.t 10) (cI 1)),mV 5 11])))))) (sR [mV 90 1,mV 4 90] .ret))
theorem dg33:Dg Tryz.prog 33 Tryz.f33 ic33 [(.t 4)]:=⟨Tryz.func33,by kernel_rfl,by kernel_rfl⟩
set_option maxHeartbeats 2000000 in
theorem c33 (l:List Conv) (k:Int) (hl:l.length≤1048576) (hk:0≤k∧k≤1000000000000000):FnP Tryz.prog G 33 1 [.arr 91 10 (l.map Conv.row)] [.own 0 l.length,.int .i64 k] (λr o=>r=.int .i64 (k+10*l.length)∧o=[.arr 91 10 ((mkS mkC 10 k l.length).map Conv.row)]):=by
 refine mP dg33 Tryz.ntmps33 ⟨_,_,rfl,rfl⟩ ?_
 simp only[ic33,go_sem]
 with_reducible repeat' (first|refine br ?_ ?_<;>intro h e<;>(try simp only[e,go_sem])<;>clear e|rw[q00 (by omega)]|refine sd ?_<;>try simp only[go_sem]|fail)
 refine q0d (λi:Nat=>⟨q0e [(0,.own 0 l.length),(1,.int .i64 (k+10*i)),(5,.int .i64 (i:Int))],q01 [(0,.arr 91 10 ((mkS mkC 10 k i).map Conv.row++(l.drop i).map Conv.row))]⟩) (λi=>l.length - i) (λi=>i≤l.length) 0
  (leN [] (by simp only[go_sem];first|done|simp) (by simp only[go_sem,qmu,List.map_nil,List.nil_append,List.drop_zero];first|done|rfl) (by simp[q0f]) (by simp only[go_sem])) (Nat.zero_le _) ?_
 intro i hi
 by_cases h:(i:Int)<l.length
 ·have hil:i<l.length:=by omega
  rw[List.drop_eq_getElem_cons hil,List.map_cons]
  obtain⟨kk,hkk⟩:∃kk,k+10*(i:Int)=kk:=⟨_,rfl⟩
  have e2:(mkS mkC 10 k (i+1)).map Conv.row=(mkS mkC 10 k i).map Conv.row++[Conv.row (mkC kk)]:=by rw[q82,hkk];simp
  have e3:k+10*((i+1:Nat):Int)=kk+10:=by omega
  obtain⟨A,hA⟩:∃A,(mkS mkC 10 k i).map Conv.row=A:=⟨_,rfl⟩
  have hAl:A.length=i:=by rw[←hA];simp[q0o]
  obtain⟨R,hR⟩:∃R,(l.drop (i+1)).map Conv.row=R:=⟨_,rfl⟩
  have hRl:R.length=l.length - (i+1):=by rw[←hR];simp
  have g1:=q2p A R
  have g2:=q2o A R
  rw[hAl] at g1 g2
  have hkb:0≤kk∧kk≤2000000000000000:=by omega
  have lA:∀x,(A++x::R).length=l.length:=λx=>by simp[hAl,hRl];omega
  generalize l[i]=c
  simp only[hA,hR,hkk]
  simp only[eq_true h,go_sem,lA]
  with_reducible repeat' (first|rw[q00 (by omega)];try simp only[go_sem,g1,g2,lA,Int.add_assoc,Int.reduceAdd]|refine br ?_ ?_<;>intro h e<;>(try simp only[e,go_sem,g1,g2,lA,Int.add_assoc,Int.reduceAdd])<;>clear e|refine sd ?_<;>try simp only[go_sem,g1,g2,lA,Int.add_assoc,Int.reduceAdd]|(first|refine cr (c72 _ (by omega)) ?_)<;>try simp only[go_sem,g1,g2,lA,Int.add_assoc,Int.reduceAdd]|fail)
  exact⟨i+1,by omega,by omega,leN [] (by simp only[go_sem,e3];first|done|omega|rfl) (by simp only[go_sem,e2,hA,hR,List.append_assoc,mkC,Int.add_assoc,Int.reduceAdd];first|done|rfl) (by simp[q0f]) (by simp only[go_sem])⟩
 ·simp only[eq_false h,go_sem]
  have:i=l.length:=by omega
  subst this
  simp only[List.drop_length,List.map_nil,List.append_nil]
  with_reducible repeat' (first|refine br ?_ ?_<;>intro h e<;>(try simp only[e,go_sem])<;>clear e|rw[q00 (by omega)]|refine sd ?_<;>try simp only[go_sem]|fail)
  exact q1h (.int .i64 (k+10*l.length)) [.arr 91 10 ((mkS mkC 10 k l.length).map Conv.row)] [] (by simp only[go_sem]) ⟨rfl,rfl⟩ (by simp only[go_sem]) (by simp[q11,q0f]) (by simp only[go_sem])
def ic75:IC:=sR [oP 4 (.mv (.c i0))] (.seq (sR [oP 5 (.mv (.c i0))] (.block 0 (.loop (.seq (sR [mV 6 5,mV 7 0,oP 8 (.len (.t 7)),bN 9 .lss 6 8] (cD 9 .skip (.exit 0))) (.seq (.block 1 (.seq (sR [mV 12 0,mV 13 5,oP 14 (.iad 3 (.t 12) (.t 13)),fD 15 0 14,lD 16 1 15,mV 17 1,bN 18 .neq 16 17] (cD 18 (sR [oP 4 (.mv (.c (.int .i64 (-1))))] .ret) .skip)) (sR [mV 19 1,oP 20 (.bin .add (.t 19) (cI 1)),mV 1 20] (.seq (sR [mV 21 0,mV 22 5,oP 23 (.iad 3 (.t 21) (.t 22)),fD 24 1 23,fD 25 0 24,lD 26 1 25,mV 27 1,bN 28 .neq 26 27] (cD 28 (sR [oP 4 (.mv (.c (.int .i64 (-1))))] .ret) .skip)) (sR [mV 29 1,oP 30 (.bin .add (.t 29) (cI 1)),mV 1 30] (.seq (sR [mV 31 0,mV 32 5,oP 33 (.iad 3 (.t 31) (.t 32)),fD 34 1 33,fD 35 1 34,lD 36 1 35,mV 37 1,bN 38 .neq 36 37] (cD 38 (sR [oP 4 (.mv (.c (.int .i64 (-1))))] .ret) .skip)) (.reg [mV 39 1,oP 40 (.bin .add (.t 39) (cI 1)),mV 1 40]))))))) (.reg [mV 10 5,oP 11 (.bin .add (.t 10) (cI 1)),mV 5 11])))))) (sR [mV 41 1,mV 4 41] .ret))
theorem dg75:Dg Tryz.prog 75 Tryz.f75 ic75 [(.t 4)]:=⟨Tryz.func75,by kernel_rfl,by kernel_rfl⟩
set_option maxHeartbeats 2000000 in
theorem c75 (n:Nat) (k:Int) (hl:n≤1048576) (hk:0≤k∧k≤1000000000000000):FnR Tryz.prog G 75 [.sl 3 ((mkS qa0 3 k n).map Pair.row),.int .i64 k] (.int .i64 (k+3*n)):=by
 refine mF dg75 Tryz.ntmps75 ?_
 have hn:(mkS qa0 3 k n).length=n:=q0o n
 simp only[ic75,go_sem,hn]
 with_reducible repeat' (first|refine br ?_ ?_<;>intro h e<;>(try simp only[e,go_sem,hn])<;>clear e|rw[q00 (by omega)]|refine sd ?_<;>try simp only[go_sem,hn]|fail)
 refine q0d (λi:Nat=>⟨q0e [(0,.sl 3 ((mkS qa0 3 k n).map Pair.row)),(1,.int .i64 (k+3*i)),(5,.int .i64 (i:Int))],q01 []⟩) (λi=>n - i) (λi=>i≤n) 0 (leN [] (by simp only[go_sem];first|done|simp) (by simp only[go_sem]) (by simp[q0f]) (by simp only[go_sem])) (Nat.zero_le _) ?_
 intro i hi
 simp only[go_sem,hn]
 by_cases h:(i:Int)<n
 ·have hg:(mkS qa0 3 k n).getD i default=qa0 (k+3*i):=qaa (by omega)
  obtain⟨kk,hkk⟩:∃kk,k+3*(i:Int)=kk:=⟨_,rfl⟩
  have e3:k+3*((i+1:Nat):Int)=kk+3:=by omega
  have hkb:0≤kk∧kk≤2000000000000000:=by omega
  rw[hkk] at hg
  simp only[hkk]
  simp only[eq_true h,go_sem,hn]
  with_reducible repeat' (first|rw[q00 (by omega)];try simp only[go_sem,hg,hn,qa0,Int.add_assoc,Int.reduceAdd,not_true_eq_false,decide_false]|refine br ?_ ?_<;>intro h e<;>(try simp only[e,go_sem,hg,hn,qa0,Int.add_assoc,Int.reduceAdd,not_true_eq_false,decide_false])<;>clear e|refine sd ?_<;>try simp only[go_sem,hg,hn,qa0,Int.add_assoc,Int.reduceAdd,not_true_eq_false,decide_false]|fail)
  exact⟨i+1,by omega,by omega,leN [] (by simp only[go_sem,e3];first|done|omega|rfl) (by simp only[go_sem]) (by simp[q0f]) (by simp only[go_sem])⟩
 ·simp only[eq_false h,go_sem]
  obtain rfl:i=n:=by omega
  with_reducible repeat' (first|refine br ?_ ?_<;>intro h e<;>(try simp only[e,go_sem])<;>clear e|rw[q00 (by omega)]|refine sd ?_<;>try simp only[go_sem]|fail)
  rfl
def qza:IC:=sR [oP 4 (.mv (.c i0))] (.seq (sR [oP 5 (.mv (.c i0))] (.block 0 (.loop (.seq (sR [mV 6 5,mV 7 0,oP 8 (.len (.t 7)),bN 9 .lss 6 8] (cD 9 .skip (.exit 0))) (.seq (.block 1 (.seq (sR [mV 12 0,mV 13 5,oP 14 (.iad 2 (.t 12) (.t 13)),fD 15 0 14,lD 16 1 15,mV 17 1,bN 18 .neq 16 17] (cD 18 (sR [oP 4 (.mv (.c (.int .i64 (-1))))] .ret) .skip)) (sR [mV 19 1,oP 20 (.bin .add (.t 19) (cI 1)),mV 1 20] (.seq (.seq (.drw [0,0,3,7,15,0,32,127] [(0,mV 21 0),(1,mV 22 5),(2,oP 23 (.iad 2 (.t 21) (.t 22))),(3,fD 24 1 23),(4,lD 25 1 24),(5,mV 26 1),(6,oP 27 (.call 72 [.t 26])),(7,bN 28 .neq 25 27)]) (cD 28 (sR [oP 4 (.mv (.c (.int .i64 (-1))))] .ret) .skip)) (.reg [mV 29 1,oP 30 (.bin .add (.t 29) (cI 1)),mV 1 30]))))) (.reg [mV 10 5,oP 11 (.bin .add (.t 10) (cI 1)),mV 5 11])))))) (sR [mV 31 1,mV 4 31] .ret))
theorem dg119:Dg Tryz.prog 119 Tryz.f119 qza [(.t 4)]:=⟨Tryz.func119,by kernel_rfl,by kernel_rfl⟩
set_option maxHeartbeats 2000000 in
theorem c119 (n:Nat) (k:Int) (hl:n≤1048576) (hk:0≤k∧k≤1000000000000000):FnR Tryz.prog G 119 [.sl 2 ((mkS qag 2 k n).map Part.row),.int .i64 k] (.int .i64 (k+2*n)):=by
 refine mF dg119 Tryz.ntmps119 ?_
 have hn:(mkS qag 2 k n).length=n:=q0o n
 simp only[qza,go_sem,hn]
 with_reducible repeat' (first|refine br ?_ ?_<;>intro h e<;>(try simp only[e,go_sem,hn])<;>clear e|rw[q00 (by omega)]|refine sd ?_<;>try simp only[go_sem,hn]|fail)
 refine q0d (λi:Nat=>⟨q0e [(0,.sl 2 ((mkS qag 2 k n).map Part.row)),(1,.int .i64 (k+2*i)),(5,.int .i64 (i:Int))],q01 []⟩) (λi=>n - i) (λi=>i≤n) 0 (leN [] (by simp only[go_sem];first|done|simp) (by simp only[go_sem]) (by simp[q0f]) (by simp only[go_sem])) (Nat.zero_le _) ?_
 intro i hi
 simp only[go_sem,hn]
 by_cases h:(i:Int)<n
 ·have hg:(mkS qag 2 k n).getD i default=qag (k+2*i):=qaa (by omega)
  obtain⟨kk,hkk⟩:∃kk,k+2*(i:Int)=kk:=⟨_,rfl⟩
  have e3:k+2*((i+1:Nat):Int)=kk+2:=by omega
  have hkb:0≤kk∧kk≤2000000000000000:=by omega
  rw[hkk] at hg
  simp only[hkk]
  simp only[eq_true h,go_sem,hn]
  with_reducible repeat' (first|rw[q00 (by omega)];try simp only[go_sem,hg,hn,qag,Int.add_assoc,Int.reduceAdd,not_true_eq_false,decide_false]|refine br ?_ ?_<;>intro h e<;>(try simp only[e,go_sem,hg,hn,qag,Int.add_assoc,Int.reduceAdd,not_true_eq_false,decide_false])<;>clear e|refine sd ?_<;>try simp only[go_sem,hg,hn,qag,Int.add_assoc,Int.reduceAdd,not_true_eq_false,decide_false]|(first|refine cr (c72 _ (by omega)) ?_)<;>try simp only[go_sem,hg,hn,qag,Int.add_assoc,Int.reduceAdd,not_true_eq_false,decide_false]|fail)
  exact⟨i+1,by omega,by omega,leN [] (by simp only[go_sem,e3];first|done|omega|rfl) (by simp only[go_sem]) (by simp[q0f]) (by simp only[go_sem])⟩
 ·simp only[eq_false h,go_sem]
  obtain rfl:i=n:=by omega
  with_reducible repeat' (first|refine br ?_ ?_<;>intro h e<;>(try simp only[e,go_sem])<;>clear e|rw[q00 (by omega)]|refine sd ?_<;>try simp only[go_sem]|fail)
  rfl
def ic38:IC:=sR [oP 4 (.mv (.c i0))] (.seq (sR [oP 5 (.mv (.c i0))] (.block 0 (.loop (.seq (sR [mV 6 5,mV 7 0,oP 8 (.len (.t 7)),bN 9 .lss 6 8] (cD 9 .skip (.exit 0))) (.seq (.block 1 (.seq (sR [mV 12 0,mV 13 5,oP 14 (.iad 7 (.t 12) (.t 13)),fD 15 0 14,lD 16 1 15,mV 17 1,bN 18 .neq 16 17] (cD 18 (sR [oP 4 (.mv (.c (.int .i64 (-1))))] .ret) .skip)) (sR [mV 19 1,oP 20 (.bin .add (.t 19) (cI 1)),mV 1 20] (.seq (sR [mV 21 0,mV 22 5,oP 23 (.iad 7 (.t 21) (.t 22)),fD 24 1 23,fD 25 0 24,lD 26 1 25,mV 27 1,bN 28 .neq 26 27] (cD 28 (sR [oP 4 (.mv (.c (.int .i64 (-1))))] .ret) .skip)) (sR [mV 29 1,oP 30 (.bin .add (.t 29) (cI 1)),mV 1 30] (.seq (sR [mV 31 0,mV 32 5,oP 33 (.iad 7 (.t 31) (.t 32)),fD 34 1 33,fD 35 1 34,lD 36 1 35,mV 37 1,bN 38 .neq 36 37] (cD 38 (sR [oP 4 (.mv (.c (.int .i64 (-1))))] .ret) .skip)) (sR [mV 39 1,oP 40 (.bin .add (.t 39) (cI 1)),mV 1 40] (.seq (sR [mV 41 0,mV 42 5,oP 43 (.iad 7 (.t 41) (.t 42)),fD 44 3 43,fD 45 0 44,lD 46 1 45,mV 47 1,bN 48 .neq 46 47] (cD 48 (sR [oP 4 (.mv (.c (.int .i64 (-1))))] .ret) .skip)) (sR [mV 49 1,oP 50 (.bin .add (.t 49) (cI 1)),mV 1 50] (.seq (sR [mV 51 0,mV 52 5,oP 53 (.iad 7 (.t 51) (.t 52)),fD 54 3 53,fD 55 1 54,lD 56 1 55,mV 57 1,bN 58 .neq 56 57] (cD 58 (sR [oP 4 (.mv (.c (.int .i64 (-1))))] .ret) .skip)) (sR [mV 59 1,oP 60 (.bin .add (.t 59) (cI 1)),mV 1 60] (.seq (sR [mV 61 0,mV 62 5,oP 63 (.iad 7 (.t 61) (.t 62)),fD 64 5 63,lD 65 1 64,mV 66 1,bN 67 .neq 65 66] (cD 67 (sR [oP 4 (.mv (.c (.int .i64 (-1))))] .ret) .skip)) (sR [mV 68 1,oP 69 (.bin .add (.t 68) (cI 1)),mV 1 69] (.seq (.seq (.drw [0,0,3,7,15,0,32,127] [(0,mV 70 0),(1,mV 71 5),(2,oP 72 (.iad 7 (.t 70) (.t 71))),(3,fD 73 6 72),(4,lD 74 1 73),(5,mV 75 1),(6,oP 76 (.call 72 [.t 75])),(7,bN 77 .neq 74 76)]) (cD 77 (sR [oP 4 (.mv (.c (.int .i64 (-1))))] .ret) .skip)) (.reg [mV 78 1,oP 79 (.bin .add (.t 78) (cI 1)),mV 1 79]))))))))))))))) (.reg [mV 10 5,oP 11 (.bin .add (.t 10) (cI 1)),mV 5 11])))))) (sR [mV 80 1,mV 4 80] .ret))
theorem dg38:Dg Tryz.prog 38 Tryz.f38 ic38 [(.t 4)]:=⟨Tryz.func38,by kernel_rfl,by kernel_rfl⟩
set_option maxHeartbeats 2000000 in
theorem c38 (n:Nat) (k:Int) (hl:n≤1048576) (hk:0≤k∧k≤1000000000000000):FnR Tryz.prog G 38 [.sl 7 ((mkS qbk 7 k n).map Pk.row),.int .i64 k] (.int .i64 (k+7*n)):=by
 refine mF dg38 Tryz.ntmps38 ?_
 have hn:(mkS qbk 7 k n).length=n:=q0o n
 simp only[ic38,go_sem,hn]
 with_reducible repeat' (first|refine br ?_ ?_<;>intro h e<;>(try simp only[e,go_sem,hn])<;>clear e|rw[q00 (by omega)]|refine sd ?_<;>try simp only[go_sem,hn]|fail)
 refine q0d (λi:Nat=>⟨q0e [(0,.sl 7 ((mkS qbk 7 k n).map Pk.row)),(1,.int .i64 (k+7*i)),(5,.int .i64 (i:Int))],q01 []⟩) (λi=>n - i) (λi=>i≤n) 0 (leN [] (by simp only[go_sem];first|done|simp) (by simp only[go_sem]) (by simp[q0f]) (by simp only[go_sem])) (Nat.zero_le _) ?_
 intro i hi
 simp only[go_sem,hn]
 by_cases h:(i:Int)<n
 ·have hg:(mkS qbk 7 k n).getD i default=qbk (k+7*i):=qaa (by omega)
  obtain⟨kk,hkk⟩:∃kk,k+7*(i:Int)=kk:=⟨_,rfl⟩
  have e3:k+7*((i+1:Nat):Int)=kk+7:=by omega
  have hkb:0≤kk∧kk≤2000000000000000:=by omega
  rw[hkk] at hg
  simp only[hkk]
  simp only[eq_true h,go_sem,hn]
  with_reducible repeat' (first|rw[q00 (by omega)];try simp only[go_sem,hg,hn,qbk,Int.add_assoc,Int.reduceAdd,not_true_eq_false,decide_false]|refine br ?_ ?_<;>intro h e<;>(try simp only[e,go_sem,hg,hn,qbk,Int.add_assoc,Int.reduceAdd,not_true_eq_false,decide_false])<;>clear e|refine sd ?_<;>try simp only[go_sem,hg,hn,qbk,Int.add_assoc,Int.reduceAdd,not_true_eq_false,decide_false]|(first|refine cr (c72 _ (by omega)) ?_)<;>try simp only[go_sem,hg,hn,qbk,Int.add_assoc,Int.reduceAdd,not_true_eq_false,decide_false]|fail)
  exact⟨i+1,by omega,by omega,leN [] (by simp only[go_sem,e3];first|done|omega|rfl) (by simp only[go_sem]) (by simp[q0f]) (by simp only[go_sem])⟩
 ·simp only[eq_false h,go_sem]
  obtain rfl:i=n:=by omega
  with_reducible repeat' (first|refine br ?_ ?_<;>intro h e<;>(try simp only[e,go_sem])<;>clear e|rw[q00 (by omega)]|refine sd ?_<;>try simp only[go_sem]|fail)
  rfl
def ic36:IC:=sR [oP 4 (.mv (.c i0))] (.seq (sR [oP 5 (.mv (.c i0))] (.block 0 (.loop (.seq (sR [mV 6 5,mV 7 0,oP 8 (.len (.t 7)),bN 9 .lss 6 8] (cD 9 .skip (.exit 0))) (.seq (.block 1 (.seq (sR [mV 12 0,mV 13 5,oP 14 (.iad 10 (.t 12) (.t 13)),fD 15 0 14,fD 16 0 15,lD 17 1 16,mV 18 1,bN 19 .neq 17 18] (cD 19 (sR [oP 4 (.mv (.c (.int .i64 (-1))))] .ret) .skip)) (sR [mV 20 1,oP 21 (.bin .add (.t 20) (cI 1)),mV 1 21] (.seq (sR [mV 22 0,mV 23 5,oP 24 (.iad 10 (.t 22) (.t 23)),fD 25 0 24,fD 26 1 25,lD 27 1 26,mV 28 1,bN 29 .neq 27 28] (cD 29 (sR [oP 4 (.mv (.c (.int .i64 (-1))))] .ret) .skip)) (sR [mV 30 1,oP 31 (.bin .add (.t 30) (cI 1)),mV 1 31] (.seq (sR [mV 32 0,mV 33 5,oP 34 (.iad 10 (.t 32) (.t 33)),fD 35 2 34,fD 36 0 35,lD 37 1 36,mV 38 1,bN 39 .neq 37 38] (cD 39 (sR [oP 4 (.mv (.c (.int .i64 (-1))))] .ret) .skip)) (sR [mV 40 1,oP 41 (.bin .add (.t 40) (cI 1)),mV 1 41] (.seq (sR [mV 42 0,mV 43 5,oP 44 (.iad 10 (.t 42) (.t 43)),fD 45 2 44,fD 46 1 45,lD 47 1 46,mV 48 1,bN 49 .neq 47 48] (cD 49 (sR [oP 4 (.mv (.c (.int .i64 (-1))))] .ret) .skip)) (sR [mV 50 1,oP 51 (.bin .add (.t 50) (cI 1)),mV 1 51] (.seq (.seq (.drw [0,0,3,7,15,0,32,127] [(0,mV 52 0),(1,mV 53 5),(2,oP 54 (.iad 10 (.t 52) (.t 53))),(3,fD 55 4 54),(4,lD 56 1 55),(5,mV 57 1),(6,oP 58 (.call 72 [.t 57])),(7,bN 59 .neq 56 58)]) (cD 59 (sR [oP 4 (.mv (.c (.int .i64 (-1))))] .ret) .skip)) (sR [mV 60 1,oP 61 (.bin .add (.t 60) (cI 1)),mV 1 61] (.seq (.seq (.drw [0,0,3,7,15,0,32,127] [(0,mV 62 0),(1,mV 63 5),(2,oP 64 (.iad 10 (.t 62) (.t 63))),(3,fD 65 5 64),(4,lD 66 1 65),(5,mV 67 1),(6,oP 68 (.call 72 [.t 67])),(7,bN 69 .neq 66 68)]) (cD 69 (sR [oP 4 (.mv (.c (.int .i64 (-1))))] .ret) .skip)) (sR [mV 70 1,oP 71 (.bin .add (.t 70) (cI 1)),mV 1 71] (.seq (sR [mV 72 0,mV 73 5,oP 74 (.iad 10 (.t 72) (.t 73)),fD 75 6 74,lD 76 1 75,mV 77 1,bN 78 .neq 76 77] (cD 78 (sR [oP 4 (.mv (.c (.int .i64 (-1))))] .ret) .skip)) (sR [mV 79 1,oP 80 (.bin .add (.t 79) (cI 1)),mV 1 80] (.seq (sR [mV 81 0,mV 82 5,oP 83 (.iad 10 (.t 81) (.t 82)),fD 84 7 83,lD 85 1 84,mV 86 1,bN 87 .neq 85 86] (cD 87 (sR [oP 4 (.mv (.c (.int .i64 (-1))))] .ret) .skip)) (sR [mV 88 1,oP 89 (.bin .add (.t 88) (cI 1)),mV 1 89] (.seq (.seq (.drw [0,0,3,7,15,0,32,127] [(0,mV 90 0),(1,mV 91 5),(2,oP 92 (.iad 10 (.t 90) (.t 91))),(3,fD 93 8 92),(4,lD 94 1 93),(5,mV 95 1),(6,oP 96 (.call 72 [.t 95])),(7,bN 97 .neq 94 96)]) (cD 97 (sR [oP 4 (.mv (.c (.int .i64 (-1))))] .ret) .skip)) (sR [mV 98 1,oP 99 (.bin .add (.t 98) (cI 1)),mV 1 99] (.seq (.seq (.drw [0,0,3,7,15,0,32,127] [(0,mV 100 0),(1,mV 101 5),(2,oP 102 (.iad 10 (.t 100) (.t 101))),(3,fD 103 9 102),(4,lD 104 1 103),(5,mV 105 1),(6,oP 106 (.call 72 [.t 105])),(7,bN 107 .neq 104 106)]) (cD 107 (sR [oP 4 (.mv (.c (.int .i64 (-1))))] .ret) .skip)) (.reg [mV 108 1,oP 109 (.bin .add (.t 108) (cI 1)),mV 1 109]))))))))))))))))))))) (.reg [mV 10 5,oP 11 (.bin .add (.t 10) (cI 1)),mV 5 11])))))) (sR [mV 110 1,mV 4 110] .ret))
theorem dg36:Dg Tryz.prog 36 Tryz.f36 ic36 [(.t 4)]:=⟨Tryz.func36,by kernel_rfl,by kernel_rfl⟩
set_option maxHeartbeats 2000000 in
theorem c36 (n:Nat) (k:Int) (hl:n≤1048576) (hk:0≤k∧k≤1000000000000000):FnR Tryz.prog G 36 [.sl 10 ((mkS mkC 10 k n).map Conv.row),.int .i64 k] (.int .i64 (k+10*n)):=by
 refine mF dg36 Tryz.ntmps36 ?_
 have hn:(mkS mkC 10 k n).length=n:=q0o n
 simp only[ic36,go_sem,hn]
 with_reducible repeat' (first|refine br ?_ ?_<;>intro h e<;>(try simp only[e,go_sem,hn])<;>clear e|rw[q00 (by omega)]|refine sd ?_<;>try simp only[go_sem,hn]|fail)
 refine q0d (λi:Nat=>⟨q0e [(0,.sl 10 ((mkS mkC 10 k n).map Conv.row)),(1,.int .i64 (k+10*i)),(5,.int .i64 (i:Int))],q01 []⟩) (λi=>n - i) (λi=>i≤n) 0 (leN [] (by simp only[go_sem];first|done|simp) (by simp only[go_sem]) (by simp[q0f]) (by simp only[go_sem])) (Nat.zero_le _) ?_
 intro i hi
 simp only[go_sem,hn]
 by_cases h:(i:Int)<n
 ·have hg:(mkS mkC 10 k n).getD i default=mkC (k+10*i):=qaa (by omega)
  obtain⟨kk,hkk⟩:∃kk,k+10*(i:Int)=kk:=⟨_,rfl⟩
  have e3:k+10*((i+1:Nat):Int)=kk+10:=by omega
  have hkb:0≤kk∧kk≤2000000000000000:=by omega
  rw[hkk] at hg
  simp only[hkk]
  simp only[eq_true h,go_sem,hn]
  with_reducible repeat' (first|rw[q00 (by omega)];try simp only[go_sem,hg,hn,mkC,Int.add_assoc,Int.reduceAdd,not_true_eq_false,decide_false]|refine br ?_ ?_<;>intro h e<;>(try simp only[e,go_sem,hg,hn,mkC,Int.add_assoc,Int.reduceAdd,not_true_eq_false,decide_false])<;>clear e|refine sd ?_<;>try simp only[go_sem,hg,hn,mkC,Int.add_assoc,Int.reduceAdd,not_true_eq_false,decide_false]|(first|refine cr (c72 _ (by omega)) ?_)<;>try simp only[go_sem,hg,hn,mkC,Int.add_assoc,Int.reduceAdd,not_true_eq_false,decide_false]|fail)
  exact⟨i+1,by omega,by omega,leN [] (by simp only[go_sem,e3];first|done|omega|rfl) (by simp only[go_sem]) (by simp[q0f]) (by simp only[go_sem])⟩
 ·simp only[eq_false h,go_sem]
  obtain rfl:i=n:=by omega
  with_reducible repeat' (first|refine br ?_ ?_<;>intro h e<;>(try simp only[e,go_sem])<;>clear e|rw[q00 (by omega)]|refine sd ?_<;>try simp only[go_sem]|fail)
  rfl
def qsn:IC:=sR [oP 2 (.box 52 (.t 0)),oP 3 (.box 52 (.t 1)),oP 4 (.mv cF)] (.seq (sR [fD 5 0 2,lD 6 1 5,fD 7 0 3,lD 8 1 7,bN 9 .neq 6 8] (cD 9 (sR [oP 4 (.mv cF)] .ret) .skip)) (.seq (sR [fD 10 1 2,lD 11 1 10,fD 12 1 3,lD 13 1 12,bN 14 .neq 11 13] (cD 14 (sR [oP 4 (.mv cF)] .ret) .skip)) (sR [oP 4 (.mv cT)] .ret)))
theorem dg115:Dg Tryz.prog 115 Tryz.f115 qsn [(.t 4)]:=⟨Tryz.func115,by kernel_rfl,by kernel_rfl⟩
theorem qrg (e:E):FnR Tryz.prog G 115 [.agg [.int .i64 e.a,.int .i64 e.p],.agg [.int .i64 e.a,.int .i64 e.p]] (.bool true):=by
 refine mF dg115 Tryz.ntmps115 ?_
 simp only[qsn,go_sem]
 with_reducible repeat' (first|refine br ?_ ?_<;>intro h e<;>(try simp only[e,go_sem])<;>clear e|rw[q00 (by omega)]|refine sd ?_<;>try simp only[go_sem]|fail)
def qzk:IC:=sR [oP 2 (.box 132 (.t 0)),oP 3 (.box 132 (.t 1)),oP 4 (.mv cF)] (.seq (sR [fD 5 0 2,lD 6 1 5,fD 7 0 3,lD 8 1 7,bN 9 .neq 6 8] (cD 9 (sR [oP 4 (.mv cF)] .ret) .skip)) (.seq (sR [fD 10 1 2,lA 11 2 10,fD 12 1 3,lA 13 2 12,oP 14 (.call 115 [.t 11,.t 13]),oP 15 (.un .not (.t 14))] (cD 15 (sR [oP 4 (.mv cF)] .ret) .skip)) (sR [oP 4 (.mv cT)] .ret)))
theorem dg116:Dg Tryz.prog 116 Tryz.f116 qzk [(.t 4)]:=⟨Tryz.func116,by kernel_rfl,by kernel_rfl⟩
theorem c116 (x:Pair):FnR Tryz.prog G 116 [.agg [.int .i64 x.port,.int .i64 x.ins.a,.int .i64 x.ins.p],.agg [.int .i64 x.port,.int .i64 x.ins.a,.int .i64 x.ins.p]] (.bool true):=by
 refine mF dg116 Tryz.ntmps116 ?_
 simp only[qzk,go_sem]
 have c0:=qrg x.ins
 with_reducible repeat' (first|refine br ?_ ?_<;>intro h e<;>(try simp only[e,go_sem])<;>clear e|rw[q00 (by omega)]|refine sd ?_<;>try simp only[go_sem]|(first|refine cr (c0 ..) ?_)<;>try simp only[go_sem]|fail)
def ic69:IC:=sR [oP 4 (.mv cF)] (.seq (sR [mV 6 0,oP 7 (.len (.t 6)),mV 8 1,oP 9 (.len (.t 8)),bN 10 .neq 7 9] (cD 10 (sR [oP 4 (.mv cF)] .ret) .skip)) (.seq (sR [oP 5 (.mv (.c i0))] (.block 0 (.loop (.seq (sR [mV 11 5,mV 12 0,oP 13 (.len (.t 12)),bN 14 .lss 11 13] (cD 14 .skip (.exit 0))) (.seq (.block 1 (.seq (.drw [0,0,3,7,0,0,48,112,255,511] [(0,mV 17 0),(1,mV 18 5),(2,oP 19 (.iad 3 (.t 17) (.t 18))),(3,lA 20 3 19),(4,mV 21 1),(5,mV 22 5),(6,oP 23 (.iad 3 (.t 21) (.t 22))),(7,lA 24 3 23),(8,oP 25 (.call 116 [.t 20,.t 24])),(9,oP 26 (.un .not (.t 25)))]) (cD 26 (sR [oP 4 (.mv cF)] .ret) .skip))) (.reg [mV 15 5,oP 16 (.bin .add (.t 15) (cI 1)),mV 5 16])))))) (sR [oP 4 (.mv cT)] .ret)))
theorem dg69:Dg Tryz.prog 69 Tryz.f69 ic69 [(.t 4)]:=⟨Tryz.func69,by kernel_rfl,by kernel_rfl⟩
theorem c69 (l:List Pair) (hl:l.length≤2000000):FnR Tryz.prog G 69 [.sl 3 (l.map Pair.row),.sl 3 (l.map Pair.row)] (.bool true):=by
 refine mF dg69 Tryz.ntmps69 ?_
 simp only[ic69,go_sem]
 with_reducible repeat' (first|refine br ?_ ?_<;>intro h e<;>(try simp only[e,go_sem])<;>clear e|rw[q00 (by omega)]|refine sd ?_<;>try simp only[go_sem]|fail)
 refine q0d (λi:Nat=>⟨q0e [(0,.sl 3 (l.map Pair.row)),(1,.sl 3 (l.map Pair.row)),(5,.int .i64 (i:Int))],q01 []⟩) (λi=>l.length - i) (λi=>i≤l.length) 0 (leQ []) (Nat.zero_le _) ?_
 intro i hi
 simp only[go_sem]
 by_cases h:(i:Int)<l.length
 ·have hil:i<l.length:=by omega
  have hg:l.getD i default=l[i]:=by simp[List.getD,hil]
  have c1:=c116 l[i]
  simp only[eq_true h,go_sem]
  with_reducible repeat' (first|refine br ?_ ?_<;>intro h e<;>(try simp only[e,go_sem,hg])<;>clear e|rw[q00 (by omega)]|refine sd ?_<;>try simp only[go_sem,hg]|(first|refine cr (c1 ..) ?_)<;>try simp only[go_sem,hg]|fail)
  exact⟨i+1,by omega,by omega,(leQ [])⟩
 ·simp only[eq_false h,go_sem]
  with_reducible repeat' (first|refine br ?_ ?_<;>intro h e<;>(try simp only[e,go_sem])<;>clear e|rw[q00 (by omega)]|refine sd ?_<;>try simp only[go_sem]|fail)
def qtl:IC:=sR [oP 2 (.box 167 (.t 0)),oP 3 (.box 167 (.t 1)),oP 4 (.mv cF)] (.seq (sR [fD 5 0 2,lD 6 1 5,fD 7 0 3,lD 8 1 7,bN 9 .neq 6 8] (cD 9 (sR [oP 4 (.mv cF)] .ret) .skip)) (.seq (sR [fD 10 1 2,lD 11 1 10,fD 12 1 3,lD 13 1 12,bN 14 .neq 11 13] (cD 14 (sR [oP 4 (.mv cF)] .ret) .skip)) (sR [oP 4 (.mv cT)] .ret)))
theorem dg191:Dg Tryz.prog 191 Tryz.f191 qtl [(.t 4)]:=⟨Tryz.func191,by kernel_rfl,by kernel_rfl⟩
theorem c191 (x:Part):FnR Tryz.prog G 191 [.agg [.int .i64 x.size,.str x.text],.agg [.int .i64 x.size,.str x.text]] (.bool true):=by
 refine mF dg191 Tryz.ntmps191 ?_
 simp only[qtl,go_sem]
 with_reducible repeat' (first|refine br ?_ ?_<;>intro h e<;>(try simp only[e,go_sem])<;>clear e|rw[q00 (by omega)]|refine sd ?_<;>try simp only[go_sem]|fail)
def qzu:IC:=sR [oP 4 (.mv cF)] (.seq (sR [mV 6 0,oP 7 (.len (.t 6)),mV 8 1,oP 9 (.len (.t 8)),bN 10 .neq 7 9] (cD 10 (sR [oP 4 (.mv cF)] .ret) .skip)) (.seq (sR [oP 5 (.mv (.c i0))] (.block 0 (.loop (.seq (sR [mV 11 5,mV 12 0,oP 13 (.len (.t 12)),bN 14 .lss 11 13] (cD 14 .skip (.exit 0))) (.seq (.block 1 (.seq (.drw [0,0,3,7,0,0,48,112,255,511] [(0,mV 17 0),(1,mV 18 5),(2,oP 19 (.iad 2 (.t 17) (.t 18))),(3,lA 20 2 19),(4,mV 21 1),(5,mV 22 5),(6,oP 23 (.iad 2 (.t 21) (.t 22))),(7,lA 24 2 23),(8,oP 25 (.call 191 [.t 20,.t 24])),(9,oP 26 (.un .not (.t 25)))]) (cD 26 (sR [oP 4 (.mv cF)] .ret) .skip))) (.reg [mV 15 5,oP 16 (.bin .add (.t 15) (cI 1)),mV 5 16])))))) (sR [oP 4 (.mv cT)] .ret)))
theorem dg166:Dg Tryz.prog 166 Tryz.f166 qzu [(.t 4)]:=⟨Tryz.func166,by kernel_rfl,by kernel_rfl⟩
theorem c166 (l:List Part) (hl:l.length≤2000000):FnR Tryz.prog G 166 [.sl 2 (l.map Part.row),.sl 2 (l.map Part.row)] (.bool true):=by
 refine mF dg166 Tryz.ntmps166 ?_
 simp only[qzu,go_sem]
 with_reducible repeat' (first|refine br ?_ ?_<;>intro h e<;>(try simp only[e,go_sem])<;>clear e|rw[q00 (by omega)]|refine sd ?_<;>try simp only[go_sem]|fail)
 refine q0d (λi:Nat=>⟨q0e [(0,.sl 2 (l.map Part.row)),(1,.sl 2 (l.map Part.row)),(5,.int .i64 (i:Int))],q01 []⟩) (λi=>l.length - i) (λi=>i≤l.length) 0 (leQ []) (Nat.zero_le _) ?_
 intro i hi
 simp only[go_sem]
 by_cases h:(i:Int)<l.length
 ·have hil:i<l.length:=by omega
  have hg:l.getD i default=l[i]:=by simp[List.getD,hil]
  have c1:=c191 l[i]
  simp only[eq_true h,go_sem]
  with_reducible repeat' (first|refine br ?_ ?_<;>intro h e<;>(try simp only[e,go_sem,hg])<;>clear e|rw[q00 (by omega)]|refine sd ?_<;>try simp only[go_sem,hg]|(first|refine cr (c1 ..) ?_)<;>try simp only[go_sem,hg]|fail)
  exact⟨i+1,by omega,by omega,(leQ [])⟩
 ·simp only[eq_false h,go_sem]
  with_reducible repeat' (first|refine br ?_ ?_<;>intro h e<;>(try simp only[e,go_sem])<;>clear e|rw[q00 (by omega)]|refine sd ?_<;>try simp only[go_sem]|fail)
def ic71:IC:=sR [oP 2 (.box 54 (.t 0)),oP 3 (.box 54 (.t 1)),oP 4 (.mv cF)] (.seq (sR [fD 5 0 2,lD 6 1 5,fD 7 0 3,lD 8 1 7,bN 9 .neq 6 8] (cD 9 (sR [oP 4 (.mv cF)] .ret) .skip)) (.seq (sR [fD 10 1 2,lA 11 2 10,fD 12 1 3,lA 13 2 12,oP 14 (.call 115 [.t 11,.t 13]),oP 15 (.un .not (.t 14))] (cD 15 (sR [oP 4 (.mv cF)] .ret) .skip)) (.seq (sR [fD 16 3 2,lA 17 2 16,fD 18 3 3,lA 19 2 18,oP 20 (.call 115 [.t 17,.t 19]),oP 21 (.un .not (.t 20))] (cD 21 (sR [oP 4 (.mv cF)] .ret) .skip)) (.seq (sR [fD 22 5 2,lD 23 1 22,fD 24 5 3,lD 25 1 24,bN 26 .neq 23 25] (cD 26 (sR [oP 4 (.mv cF)] .ret) .skip)) (.seq (sR [fD 27 6 2,lD 28 1 27,fD 29 6 3,lD 30 1 29,bN 31 .neq 28 30] (cD 31 (sR [oP 4 (.mv cF)] .ret) .skip)) (sR [oP 4 (.mv cT)] .ret))))))
theorem dg71:Dg Tryz.prog 71 Tryz.f71 ic71 [(.t 4)]:=⟨Tryz.func71,by kernel_rfl,by kernel_rfl⟩
theorem c71 (x:Pk):FnR Tryz.prog G 71 [.agg [.int .i64 x.kind,.int .i64 x.frm.a,.int .i64 x.frm.p,.int .i64 x.to.a,.int .i64 x.to.p,.int .i64 x.at_,.str x.text],.agg [.int .i64 x.kind,.int .i64 x.frm.a,.int .i64 x.frm.p,.int .i64 x.to.a,.int .i64 x.to.p,.int .i64 x.at_,.str x.text]] (.bool true):=by
 refine mF dg71 Tryz.ntmps71 ?_
 simp only[ic71,go_sem]
 have c0:=qrg x.frm
 have c1:=qrg x.to
 with_reducible repeat' (first|refine br ?_ ?_<;>intro h e<;>(try simp only[e,go_sem])<;>clear e|rw[q00 (by omega)]|refine sd ?_<;>try simp only[go_sem]|(first|refine cr (c0 ..) ?_|refine cr (c1 ..) ?_)<;>try simp only[go_sem]|fail)
def ic32:IC:=sR [oP 4 (.mv cF)] (.seq (sR [mV 6 0,oP 7 (.len (.t 6)),mV 8 1,oP 9 (.len (.t 8)),bN 10 .neq 7 9] (cD 10 (sR [oP 4 (.mv cF)] .ret) .skip)) (.seq (sR [oP 5 (.mv (.c i0))] (.block 0 (.loop (.seq (sR [mV 11 5,mV 12 0,oP 13 (.len (.t 12)),bN 14 .lss 11 13] (cD 14 .skip (.exit 0))) (.seq (.block 1 (.seq (.drw [0,0,3,7,0,0,48,112,255,511] [(0,mV 17 0),(1,mV 18 5),(2,oP 19 (.iad 7 (.t 17) (.t 18))),(3,lA 20 7 19),(4,mV 21 1),(5,mV 22 5),(6,oP 23 (.iad 7 (.t 21) (.t 22))),(7,lA 24 7 23),(8,oP 25 (.call 71 [.t 20,.t 24])),(9,oP 26 (.un .not (.t 25)))]) (cD 26 (sR [oP 4 (.mv cF)] .ret) .skip))) (.reg [mV 15 5,oP 16 (.bin .add (.t 15) (cI 1)),mV 5 16])))))) (sR [oP 4 (.mv cT)] .ret)))
theorem dg32:Dg Tryz.prog 32 Tryz.f32 ic32 [(.t 4)]:=⟨Tryz.func32,by kernel_rfl,by kernel_rfl⟩
theorem c32 (l:List Pk) (hl:l.length≤2000000):FnR Tryz.prog G 32 [.sl 7 (l.map Pk.row),.sl 7 (l.map Pk.row)] (.bool true):=by
 refine mF dg32 Tryz.ntmps32 ?_
 simp only[ic32,go_sem]
 with_reducible repeat' (first|refine br ?_ ?_<;>intro h e<;>(try simp only[e,go_sem])<;>clear e|rw[q00 (by omega)]|refine sd ?_<;>try simp only[go_sem]|fail)
 refine q0d (λi:Nat=>⟨q0e [(0,.sl 7 (l.map Pk.row)),(1,.sl 7 (l.map Pk.row)),(5,.int .i64 (i:Int))],q01 []⟩) (λi=>l.length - i) (λi=>i≤l.length) 0 (leQ []) (Nat.zero_le _) ?_
 intro i hi
 simp only[go_sem]
 by_cases h:(i:Int)<l.length
 ·have hil:i<l.length:=by omega
  have hg:l.getD i default=l[i]:=by simp[List.getD,hil]
  have c1:=c71 l[i]
  simp only[eq_true h,go_sem]
  with_reducible repeat' (first|refine br ?_ ?_<;>intro h e<;>(try simp only[e,go_sem,hg])<;>clear e|rw[q00 (by omega)]|refine sd ?_<;>try simp only[go_sem,hg]|(first|refine cr (c1 ..) ?_)<;>try simp only[go_sem,hg]|fail)
  exact⟨i+1,by omega,by omega,(leQ [])⟩
 ·simp only[eq_false h,go_sem]
  with_reducible repeat' (first|refine br ?_ ?_<;>intro h e<;>(try simp only[e,go_sem])<;>clear e|rw[q00 (by omega)]|refine sd ?_<;>try simp only[go_sem]|fail)
def ic68:IC:=sR [oP 2 (.box 91 (.t 0)),oP 3 (.box 91 (.t 1)),oP 4 (.mv cF)] (.seq (sR [fD 5 0 2,lA 6 2 5,fD 7 0 3,lA 8 2 7,oP 9 (.call 115 [.t 6,.t 8]),oP 10 (.un .not (.t 9))] (cD 10 (sR [oP 4 (.mv cF)] .ret) .skip)) (.seq (sR [fD 11 2 2,lA 12 2 11,fD 13 2 3,lA 14 2 13,oP 15 (.call 115 [.t 12,.t 14]),oP 16 (.un .not (.t 15))] (cD 16 (sR [oP 4 (.mv cF)] .ret) .skip)) (.seq (sR [fD 17 4 2,lD 18 1 17,fD 19 4 3,lD 20 1 19,bN 21 .neq 18 20] (cD 21 (sR [oP 4 (.mv cF)] .ret) .skip)) (.seq (sR [fD 22 5 2,lD 23 1 22,fD 24 5 3,lD 25 1 24,bN 26 .neq 23 25] (cD 26 (sR [oP 4 (.mv cF)] .ret) .skip)) (.seq (sR [fD 27 6 2,lD 28 1 27,fD 29 6 3,lD 30 1 29,bN 31 .neq 28 30] (cD 31 (sR [oP 4 (.mv cF)] .ret) .skip)) (.seq (sR [fD 32 7 2,lD 33 1 32,fD 34 7 3,lD 35 1 34,bN 36 .neq 33 35] (cD 36 (sR [oP 4 (.mv cF)] .ret) .skip)) (.seq (sR [fD 37 8 2,lD 38 1 37,fD 39 8 3,lD 40 1 39,bN 41 .neq 38 40] (cD 41 (sR [oP 4 (.mv cF)] .ret) .skip)) (.seq (sR [fD 42 9 2,lD 43 1 42,fD 44 9 3,lD 45 1 44,bN 46 .neq 43 45] (cD 46 (sR [oP 4 (.mv cF)] .ret) .skip)) (sR [oP 4 (.mv cT)] .ret)))))))))
theorem dg68:Dg Tryz.prog 68 Tryz.f68 ic68 [(.t 4)]:=⟨Tryz.func68,by kernel_rfl,by kernel_rfl⟩
theorem c68 (x:Conv):FnR Tryz.prog G 68 [.agg [.int .i64 x.ins.a,.int .i64 x.ins.p,.int .i64 x.out.a,.int .i64 x.out.p,.str x.up,.str x.down,.int .i64 x.upAck,.int .i64 x.downAck,.str x.upGot,.str x.downGot],.agg [.int .i64 x.ins.a,.int .i64 x.ins.p,.int .i64 x.out.a,.int .i64 x.out.p,.str x.up,.str x.down,.int .i64 x.upAck,.int .i64 x.downAck,.str x.upGot,.str x.downGot]] (.bool true):=by
 refine mF dg68 Tryz.ntmps68 ?_
 simp only[ic68,go_sem]
 have c0:=qrg x.ins
 have c1:=qrg x.out
 with_reducible repeat' (first|refine br ?_ ?_<;>intro h e<;>(try simp only[e,go_sem])<;>clear e|rw[q00 (by omega)]|refine sd ?_<;>try simp only[go_sem]|(first|refine cr (c0 ..) ?_|refine cr (c1 ..) ?_)<;>try simp only[go_sem]|fail)
def ic30:IC:=sR [oP 4 (.mv cF)] (.seq (sR [mV 6 0,oP 7 (.len (.t 6)),mV 8 1,oP 9 (.len (.t 8)),bN 10 .neq 7 9] (cD 10 (sR [oP 4 (.mv cF)] .ret) .skip)) (.seq (sR [oP 5 (.mv (.c i0))] (.block 0 (.loop (.seq (sR [mV 11 5,mV 12 0,oP 13 (.len (.t 12)),bN 14 .lss 11 13] (cD 14 .skip (.exit 0))) (.seq (.block 1 (.seq (.drw [0,0,3,7,0,0,48,112,255,511] [(0,mV 17 0),(1,mV 18 5),(2,oP 19 (.iad 10 (.t 17) (.t 18))),(3,lA 20 10 19),(4,mV 21 1),(5,mV 22 5),(6,oP 23 (.iad 10 (.t 21) (.t 22))),(7,lA 24 10 23),(8,oP 25 (.call 68 [.t 20,.t 24])),(9,oP 26 (.un .not (.t 25)))]) (cD 26 (sR [oP 4 (.mv cF)] .ret) .skip))) (.reg [mV 15 5,oP 16 (.bin .add (.t 15) (cI 1)),mV 5 16])))))) (sR [oP 4 (.mv cT)] .ret)))
theorem dg30:Dg Tryz.prog 30 Tryz.f30 ic30 [(.t 4)]:=⟨Tryz.func30,by kernel_rfl,by kernel_rfl⟩
theorem c30 (l:List Conv) (hl:l.length≤2000000):FnR Tryz.prog G 30 [.sl 10 (l.map Conv.row),.sl 10 (l.map Conv.row)] (.bool true):=by
 refine mF dg30 Tryz.ntmps30 ?_
 simp only[ic30,go_sem]
 with_reducible repeat' (first|refine br ?_ ?_<;>intro h e<;>(try simp only[e,go_sem])<;>clear e|rw[q00 (by omega)]|refine sd ?_<;>try simp only[go_sem]|fail)
 refine q0d (λi:Nat=>⟨q0e [(0,.sl 10 (l.map Conv.row)),(1,.sl 10 (l.map Conv.row)),(5,.int .i64 (i:Int))],q01 []⟩) (λi=>l.length - i) (λi=>i≤l.length) 0 (leQ []) (Nat.zero_le _) ?_
 intro i hi
 simp only[go_sem]
 by_cases h:(i:Int)<l.length
 ·have hil:i<l.length:=by omega
  have hg:l.getD i default=l[i]:=by simp[List.getD,hil]
  have c1:=c68 l[i]
  simp only[eq_true h,go_sem]
  with_reducible repeat' (first|refine br ?_ ?_<;>intro h e<;>(try simp only[e,go_sem,hg])<;>clear e|rw[q00 (by omega)]|refine sd ?_<;>try simp only[go_sem,hg]|(first|refine cr (c1 ..) ?_)<;>try simp only[go_sem,hg]|fail)
  exact⟨i+1,by omega,by omega,(leQ [])⟩
 ·simp only[eq_false h,go_sem]
  with_reducible repeat' (first|refine br ?_ ?_<;>intro h e<;>(try simp only[e,go_sem])<;>clear e|rw[q00 (by omega)]|refine sd ?_<;>try simp only[go_sem]|fail)
end Go.Proofs.YtpppoklkijmeoaaGreatDoor.W
namespace Go.Proofs.YtpppoklkijmeoaaGreatDoor.W
open Go Go.RowKit Go.Proofs Go.Proofs.YtpppoklkijmeoaaGreatDoor.VL Go.Proofs.YtpppoklkijmeoaaGreatDoor.M
attribute [local go_sem] q1j q8i Nat.reduceLT Nat.reduceMul Int.reduceToNat
def ptB (f:Flw):Prop:=f.up.parts.length≤1048576∧f.down.parts.length≤1048576
theorem k11 (k:Int):k+1+1=k+2:=by omega
theorem k21 (k:Int):k+2+1=k+3:=by omega
theorem k31 (k:Int):k+3+1=k+4:=by omega
theorem k41 (k:Int):k+4+1=k+5:=by omega
def qz6:IC:=sR [oP 2 (.box 128 (.t 0)),oP 3 (.box 128 (.t 1)),oP 4 (.mv cF)] (.seq (sR [fD 5 0 2,lD 6 1 5,fD 7 0 3,lD 8 1 7,bN 9 .neq 6 8] (cD 9 (sR [oP 4 (.mv cF)] .ret) .skip)) (.seq (sR [fD 10 1 2,lD 11 1 10,fD 12 1 3,lD 13 1 12,oP 14 (.call 166 [.t 11,.t 13]),oP 15 (.un .not (.t 14))] (cD 15 (sR [oP 4 (.mv cF)] .ret) .skip)) (sR [oP 4 (.mv cT)] .ret)))
theorem dg145:Dg Tryz.prog 145 Tryz.f145 qz6 [(.t 4)]:=⟨Tryz.func145,by kernel_rfl,by kernel_rfl⟩
theorem c145 (s:Strm) (h:s.parts.length≤2000000):FnR Tryz.prog G 145 [.agg [.str s.inn,.sl 2 (s.parts.map Part.row)],.agg [.str s.inn,.sl 2 (s.parts.map Part.row)]] (.bool true):=by
 refine mF dg145 Tryz.ntmps145 ?_
 have c1:=c166 s.parts h
 simp only[qz6,go_sem]
 with_reducible repeat' (first|refine br ?_ ?_<;>intro h e<;>(try simp only[e,go_sem])<;>clear e|rw[q00 (by omega)]|refine sd ?_<;>try simp only[go_sem]|(first|refine cr (c1 ..) ?_)<;>try simp only[go_sem]|fail)
def qss:IC:=sR [oP 2 (.box 130 (.t 0)),oP 3 (.box 130 (.t 1)),oP 4 (.mv cF)] (.seq (sR [fD 5 0 2,lA 6 2 5,fD 7 0 3,lA 8 2 7,oP 9 (.call 115 [.t 6,.t 8]),oP 10 (.un .not (.t 9))] (cD 10 (sR [oP 4 (.mv cF)] .ret) .skip)) (.seq (sR [fD 11 2 2,lA 12 2 11,fD 13 2 3,lA 14 2 13,oP 15 (.call 115 [.t 12,.t 14]),oP 16 (.un .not (.t 15))] (cD 16 (sR [oP 4 (.mv cF)] .ret) .skip)) (.seq (sR [fD 17 4 2,lA 18 2 17,fD 19 4 3,lA 20 2 19,oP 21 (.call 145 [.t 18,.t 20]),oP 22 (.un .not (.t 21))] (cD 22 (sR [oP 4 (.mv cF)] .ret) .skip)) (.seq (sR [fD 23 6 2,lA 24 2 23,fD 25 6 3,lA 26 2 25,oP 27 (.call 145 [.t 24,.t 26]),oP 28 (.un .not (.t 27))] (cD 28 (sR [oP 4 (.mv cF)] .ret) .skip)) (sR [oP 4 (.mv cT)] .ret)))))
theorem dg117:Dg Tryz.prog 117 Tryz.f117 qss [(.t 4)]:=⟨Tryz.func117,by kernel_rfl,by kernel_rfl⟩
theorem c117 (f:Flw) (h:ptB f):FnR Tryz.prog G 117 [.agg (Flw.row f),.agg (Flw.row f)] (.bool true):=by
 refine mF dg117 Tryz.ntmps117 ?_
 obtain⟨h1,h2⟩:=h
 have c1:=qrg f.ins
 have c2:=qrg f.out
 have c3:=c145 f.up (by omega)
 have c4:=c145 f.down (by omega)
 simp only[qss,go_sem]
 with_reducible repeat' (first|refine br ?_ ?_<;>intro h e<;>(try simp only[e,go_sem])<;>clear e|rw[q00 (by omega)]|refine sd ?_<;>try simp only[go_sem]|(first|refine cr (c1 ..) ?_|refine cr (c2 ..) ?_|refine cr (c3 ..) ?_|refine cr (c4 ..) ?_)<;>try simp only[go_sem]|fail)
def ic70:IC:=sR [oP 4 (.mv cF)] (.seq (sR [mV 6 0,oP 7 (.len (.t 6)),mV 8 1,oP 9 (.len (.t 8)),bN 10 .neq 7 9] (cD 10 (sR [oP 4 (.mv cF)] .ret) .skip)) (.seq (sR [oP 5 (.mv (.c i0))] (.block 0 (.loop (.seq (sR [mV 11 5,mV 12 0,oP 13 (.len (.t 12)),bN 14 .lss 11 13] (cD 14 .skip (.exit 0))) (.seq (.block 1 (.seq (.drw [0,0,3,7,0,0,48,112,255,511] [(0,mV 17 0),(1,mV 18 5),(2,oP 19 (.iad 8 (.t 17) (.t 18))),(3,lA 20 8 19),(4,mV 21 1),(5,mV 22 5),(6,oP 23 (.iad 8 (.t 21) (.t 22))),(7,lA 24 8 23),(8,oP 25 (.call 117 [.t 20,.t 24])),(9,oP 26 (.un .not (.t 25)))]) (cD 26 (sR [oP 4 (.mv cF)] .ret) .skip))) (.reg [mV 15 5,oP 16 (.bin .add (.t 15) (cI 1)),mV 5 16])))))) (sR [oP 4 (.mv cT)] .ret)))
theorem dg70:Dg Tryz.prog 70 Tryz.f70 ic70 [(.t 4)]:=⟨Tryz.func70,by kernel_rfl,by kernel_rfl⟩
theorem c70 (l:List Flw) (hl:l.length≤2000000) (hb:∀f∈l,ptB f):FnR Tryz.prog G 70 [.sl 8 (l.map Flw.row),.sl 8 (l.map Flw.row)] (.bool true):=by
 refine mF dg70 Tryz.ntmps70 ?_
 simp only[ic70,go_sem]
 with_reducible repeat' (first|refine br ?_ ?_<;>intro h e<;>(try simp only[e,go_sem])<;>clear e|rw[q00 (by omega)]|refine sd ?_<;>try simp only[go_sem]|fail)
 refine q0d (λi:Nat=>⟨q0e [(0,.sl 8 (l.map Flw.row)),(1,.sl 8 (l.map Flw.row)),(5,.int .i64 (i:Int))],q01 []⟩) (λi=>l.length - i) (λi=>i≤l.length) 0 (leQ []) (Nat.zero_le _) ?_
 intro i hi
 simp only[go_sem]
 by_cases h:(i:Int)<l.length
 ·have hil:i<l.length:=by omega
  have hg:l.getD i default=l[i]:=by simp[List.getD,hil]
  have c1:=c117 l[i] (hb _ (List.getElem_mem hil))
  simp only[Flw.row] at c1
  simp only[eq_true h,go_sem]
  with_reducible repeat' (first|refine br ?_ ?_<;>intro h e<;>(try simp only[e,go_sem,hg])<;>clear e|rw[q00 (by omega)]|refine sd ?_<;>try simp only[go_sem,hg]|(first|refine cr (c1 ..) ?_)<;>try simp only[go_sem,hg]|fail)
  exact⟨i+1,by omega,by omega,(leQ [])⟩
 ·simp only[eq_false h,go_sem]
  with_reducible repeat' (first|refine br ?_ ?_<;>intro h e<;>(try simp only[e,go_sem])<;>clear e|rw[q00 (by omega)]|refine sd ?_<;>try simp only[go_sem]|fail)
def ic31:IC:=sR [oP 2 (.box 35 (.t 0)),oP 3 (.box 35 (.t 1)),oP 4 (.mv cF)] (.seq (sR [fD 5 0 2,lD 6 1 5,fD 7 0 3,lD 8 1 7,oP 9 (.call 69 [.t 6,.t 8]),oP 10 (.un .not (.t 9))] (cD 10 (sR [oP 4 (.mv cF)] .ret) .skip)) (.seq (sR [fD 11 1 2,lD 12 1 11,fD 13 1 3,lD 14 1 13,oP 15 (.call 70 [.t 12,.t 14]),oP 16 (.un .not (.t 15))] (cD 16 (sR [oP 4 (.mv cF)] .ret) .skip)) (sR [oP 4 (.mv cT)] .ret)))
theorem dg31:Dg Tryz.prog 31 Tryz.f31 ic31 [(.t 4)]:=⟨Tryz.func31,by kernel_rfl,by kernel_rfl⟩
theorem c31 (d:Door) (h1:d.map.length≤2000000) (h2:d.flows.length≤2000000) (hb:∀f∈d.flows,ptB f):FnR Tryz.prog G 31 [.agg [.sl 3 (d.map.map Pair.row),.sl 8 (d.flows.map Flw.row)],.agg [.sl 3 (d.map.map Pair.row),.sl 8 (d.flows.map Flw.row)]] (.bool true):=by
 refine mF dg31 Tryz.ntmps31 ?_
 have c1:=c69 d.map h1
 have c2:=c70 d.flows h2 hb
 simp only[ic31,go_sem]
 with_reducible repeat' (first|refine br ?_ ?_<;>intro h e<;>(try simp only[e,go_sem])<;>clear e|rw[q00 (by omega)]|refine sd ?_<;>try simp only[go_sem]|(first|refine cr (c1 ..) ?_|refine cr (c2 ..) ?_)<;>try simp only[go_sem]|fail)
def ic9:IC:=sR [oP 2 (.box 38 (.t 0)),oP 3 (.box 38 (.t 1)),oP 4 (.mv cF)] (.seq (sR [fD 5 0 2,lD 6 1 5,fD 7 0 3,lD 8 1 7,oP 9 (.call 30 [.t 6,.t 8]),oP 10 (.un .not (.t 9))] (cD 10 (sR [oP 4 (.mv cF)] .ret) .skip)) (.seq (sR [fD 11 1 2,lA 12 2 11,fD 13 1 3,lA 14 2 13,oP 15 (.call 31 [.t 12,.t 14]),oP 16 (.un .not (.t 15))] (cD 16 (sR [oP 4 (.mv cF)] .ret) .skip)) (.seq (sR [fD 17 3 2,lD 18 1 17,fD 19 3 3,lD 20 1 19,oP 21 (.call 32 [.t 18,.t 20]),oP 22 (.un .not (.t 21))] (cD 22 (sR [oP 4 (.mv cF)] .ret) .skip)) (sR [oP 4 (.mv cT)] .ret))))
theorem dg9:Dg Tryz.prog 9 Tryz.f9 ic9 [(.t 4)]:=⟨Tryz.func9,by kernel_rfl,by kernel_rfl⟩
theorem c9 (w:M.World) (h0:w.convs.length≤2000000) (h1:w.door.map.length≤2000000) (h2:w.door.flows.length≤2000000) (h3:w.nets.length≤2000000) (hb:∀f∈w.door.flows,ptB f):FnR Tryz.prog G 9 [.agg [.sl 10 (w.convs.map Conv.row),.sl 3 (w.door.map.map Pair.row),.sl 8 (w.door.flows.map Flw.row),.sl 7 (w.nets.map Pk.row)],.agg [.sl 10 (w.convs.map Conv.row),.sl 3 (w.door.map.map Pair.row),.sl 8 (w.door.flows.map Flw.row),.sl 7 (w.nets.map Pk.row)]] (.bool true):=by
 refine mF dg9 Tryz.ntmps9 ?_
 have c1:=c30 w.convs h0
 have c2:=c31 w.door h1 h2 hb
 have c3:=c32 w.nets h3
 simp only[ic9,go_sem]
 with_reducible repeat' (first|refine br ?_ ?_<;>intro h e<;>(try simp only[e,go_sem])<;>clear e|rw[q00 (by omega)]|refine sd ?_<;>try simp only[go_sem]|(first|refine cr (c1 ..) ?_|refine cr (c2 ..) ?_|refine cr (c3 ..) ?_)<;>try simp only[go_sem]|fail)
def ic74:IC:=sR [oP 4 (.mv (.c i0))] (.seq (sR [oP 5 (.mv (.c i0))] (.block 0 (.loop (.seq (sR [mV 6 5,mV 7 0,oP 8 (.len (.t 7)),bN 9 .lss 6 8] (cD 9 .skip (.exit 0))) (.seq (.block 1 (sR [mV 12 0,mV 13 5,mV 14 1,oP 15 (.iad 8 (.t 12) (.t 13)),fD 16 0 15,fD 17 0 16,nP (.sto 1 (.t 17) (.t 14))] (sR [mV 18 1,oP 19 (.bin .add (.t 18) (cI 1)),mV 1 19] (sR [mV 20 0,mV 21 5,mV 22 1,oP 23 (.iad 8 (.t 20) (.t 21)),fD 24 0 23,fD 25 1 24,nP (.sto 1 (.t 25) (.t 22))] (sR [mV 26 1,oP 27 (.bin .add (.t 26) (cI 1)),mV 1 27] (sR [mV 28 0,mV 29 5,mV 30 1,oP 31 (.iad 8 (.t 28) (.t 29)),fD 32 2 31,fD 33 0 32,nP (.sto 1 (.t 33) (.t 30))] (sR [mV 34 1,oP 35 (.bin .add (.t 34) (cI 1)),mV 1 35] (sR [mV 36 0,mV 37 5,mV 38 1,oP 39 (.iad 8 (.t 36) (.t 37)),fD 40 2 39,fD 41 1 40,nP (.sto 1 (.t 41) (.t 38))] (sR [mV 42 1,oP 43 (.bin .add (.t 42) (cI 1)),mV 1 43] (sR [mV 44 0,mV 45 5,mV 46 1,oP 47 (.call 72 [.t 46]),oP 48 (.iad 8 (.t 44) (.t 45)),fD 49 4 48,fD 50 0 49,nP (.sto 1 (.t 50) (.t 47))] (sR [mV 51 1,oP 52 (.bin .add (.t 51) (cI 1)),mV 1 52] (sR [mV 53 0,mV 54 5,oP 55 (.iad 8 (.t 53) (.t 54)),fD 56 4 55,fD 57 1 56,lD 58 1 57,mV 59 1,oP 60 (.call 118 [.t 58,.t 59]),mV 1 60] (sR [mV 61 0,mV 62 5,mV 63 1,oP 64 (.call 72 [.t 63]),oP 65 (.iad 8 (.t 61) (.t 62)),fD 66 6 65,fD 67 0 66,nP (.sto 1 (.t 67) (.t 64))] (sR [mV 68 1,oP 69 (.bin .add (.t 68) (cI 1)),mV 1 69] (.reg [mV 70 0,mV 71 5,oP 72 (.iad 8 (.t 70) (.t 71)),fD 73 6 72,fD 74 1 73,lD 75 1 74,mV 76 1,oP 77 (.call 118 [.t 75,.t 76]),mV 1 77]))))))))))))))) (.reg [mV 10 5,oP 11 (.bin .add (.t 10) (cI 1)),mV 5 11])))))) (sR [mV 78 1,mV 4 78] .ret))
theorem dg74:Dg Tryz.prog 74 Tryz.f74 ic74 [(.t 4)]:=⟨Tryz.func74,by kernel_rfl,by kernel_rfl⟩
def ic76:IC:=sR [oP 4 (.mv (.c i0))] (.seq (sR [oP 5 (.mv (.c i0))] (.block 0 (.loop (.seq (sR [mV 6 5,mV 7 0,oP 8 (.len (.t 7)),bN 9 .lss 6 8] (cD 9 .skip (.exit 0))) (.seq (.block 1 (.seq (sR [mV 12 0,mV 13 5,oP 14 (.iad 8 (.t 12) (.t 13)),fD 15 0 14,fD 16 0 15,lD 17 1 16,mV 18 1,bN 19 .neq 17 18] (cD 19 (sR [oP 4 (.mv (.c (.int .i64 (-1))))] .ret) .skip)) (sR [mV 20 1,oP 21 (.bin .add (.t 20) (cI 1)),mV 1 21] (.seq (sR [mV 22 0,mV 23 5,oP 24 (.iad 8 (.t 22) (.t 23)),fD 25 0 24,fD 26 1 25,lD 27 1 26,mV 28 1,bN 29 .neq 27 28] (cD 29 (sR [oP 4 (.mv (.c (.int .i64 (-1))))] .ret) .skip)) (sR [mV 30 1,oP 31 (.bin .add (.t 30) (cI 1)),mV 1 31] (.seq (sR [mV 32 0,mV 33 5,oP 34 (.iad 8 (.t 32) (.t 33)),fD 35 2 34,fD 36 0 35,lD 37 1 36,mV 38 1,bN 39 .neq 37 38] (cD 39 (sR [oP 4 (.mv (.c (.int .i64 (-1))))] .ret) .skip)) (sR [mV 40 1,oP 41 (.bin .add (.t 40) (cI 1)),mV 1 41] (.seq (sR [mV 42 0,mV 43 5,oP 44 (.iad 8 (.t 42) (.t 43)),fD 45 2 44,fD 46 1 45,lD 47 1 46,mV 48 1,bN 49 .neq 47 48] (cD 49 (sR [oP 4 (.mv (.c (.int .i64 (-1))))] .ret) .skip)) (sR [mV 50 1,oP 51 (.bin .add (.t 50) (cI 1)),mV 1 51] (.seq (.seq (.drw [0,0,3,7,15,31,0,64,255] [(0,mV 52 0),(1,mV 53 5),(2,oP 54 (.iad 8 (.t 52) (.t 53))),(3,fD 55 4 54),(4,fD 56 0 55),(5,lD 57 1 56),(6,mV 58 1),(7,oP 59 (.call 72 [.t 58])),(8,bN 60 .neq 57 59)]) (cD 60 (sR [oP 4 (.mv (.c (.int .i64 (-1))))] .ret) .skip)) (sR [mV 61 1,oP 62 (.bin .add (.t 61) (cI 1)),mV 1 62] (sR [mV 63 0,mV 64 5,oP 65 (.iad 8 (.t 63) (.t 64)),fD 66 4 65,fD 67 1 66,lD 68 1 67,mV 69 1,oP 70 (.call 119 [.t 68,.t 69]),mV 1 70] (.seq (sR [mV 71 1,oP 72 (.bin .lss (.t 71) (.c i0))] (cD 72 (sR [oP 4 (.mv (.c (.int .i64 (-1))))] .ret) .skip)) (.seq (.seq (.drw [0,0,3,7,15,31,0,64,255] [(0,mV 73 0),(1,mV 74 5),(2,oP 75 (.iad 8 (.t 73) (.t 74))),(3,fD 76 6 75),(4,fD 77 0 76),(5,lD 78 1 77),(6,mV 79 1),(7,oP 80 (.call 72 [.t 79])),(8,bN 81 .neq 78 80)]) (cD 81 (sR [oP 4 (.mv (.c (.int .i64 (-1))))] .ret) .skip)) (sR [mV 82 1,oP 83 (.bin .add (.t 82) (cI 1)),mV 1 83] (sR [mV 84 0,mV 85 5,oP 86 (.iad 8 (.t 84) (.t 85)),fD 87 6 86,fD 88 1 87,lD 89 1 88,mV 90 1,oP 91 (.call 119 [.t 89,.t 90]),mV 1 91] (sR [mV 92 1,oP 93 (.bin .lss (.t 92) (.c i0))] (cD 93 (sR [oP 4 (.mv (.c (.int .i64 (-1))))] .ret) .skip)))))))))))))))))) (.reg [mV 10 5,oP 11 (.bin .add (.t 10) (cI 1)),mV 5 11])))))) (sR [mV 94 1,mV 4 94] .ret))
theorem dg76:Dg Tryz.prog 76 Tryz.f76 ic76 [(.t 4)]:=⟨Tryz.func76,by kernel_rfl,by kernel_rfl⟩
def ic34:IC:=sR [oP 2 (.box 35 (.t 0)),oP 4 (.mv (.c i0))] (sR [fD 5 0 2,lD 6 1 5,mV 7 1,oP 8 (.call 73 [.t 6,.t 7]),mV 1 8] (sR [fD 9 1 2,lD 10 1 9,mV 11 1,oP 12 (.call 74 [.t 10,.t 11]),mV 1 12] (sR [mV 13 1,mV 4 13] .ret)))
theorem dg34:Dg Tryz.prog 34 Tryz.f34 ic34 [(.t 4)]:=⟨Tryz.func34,by kernel_rfl,by kernel_rfl⟩
def ic37:IC:=sR [oP 2 (.box 35 (.t 0)),oP 4 (.mv (.c i0))] (sR [fD 5 0 2,lD 6 1 5,mV 7 1,oP 8 (.call 75 [.t 6,.t 7]),mV 1 8] (.seq (sR [mV 9 1,oP 10 (.bin .lss (.t 9) (.c i0))] (cD 10 (sR [oP 4 (.mv (.c (.int .i64 (-1))))] .ret) .skip)) (sR [fD 11 1 2,lD 12 1 11,mV 13 1,oP 14 (.call 76 [.t 12,.t 13]),mV 1 14] (.seq (sR [mV 15 1,oP 16 (.bin .lss (.t 15) (.c i0))] (cD 16 (sR [oP 4 (.mv (.c (.int .i64 (-1))))] .ret) .skip)) (sR [mV 17 1,mV 4 17] .ret)))))
theorem dg37:Dg Tryz.prog 37 Tryz.f37 ic37 [(.t 4)]:=⟨Tryz.func37,by kernel_rfl,by kernel_rfl⟩
def ic10:IC:=sR [oP 2 (.box 38 (.t 0)),oP 4 (.mv (.c i0))] (sR [fD 5 0 2,lD 6 1 5,mV 7 1,oP 8 (.call 33 [.t 6,.t 7]),mV 1 8] (sR [fD 9 1 2,lA 10 2 9,mV 11 1,oP 12 (.call 34 [.t 10,.t 11]),mV 1 12] (sR [fD 13 3 2,lD 14 1 13,mV 15 1,oP 16 (.call 35 [.t 14,.t 15]),mV 1 16] (sR [mV 17 1,mV 4 17] .ret))))
theorem dg10:Dg Tryz.prog 10 Tryz.f10 ic10 [(.t 4)]:=⟨Tryz.func10,by kernel_rfl,by kernel_rfl⟩
def ic11:IC:=sR [oP 2 (.box 38 (.t 0)),oP 4 (.mv (.c i0))] (sR [fD 5 0 2,lD 6 1 5,mV 7 1,oP 8 (.call 36 [.t 6,.t 7]),mV 1 8] (.seq (sR [mV 9 1,oP 10 (.bin .lss (.t 9) (.c i0))] (cD 10 (sR [oP 4 (.mv (.c (.int .i64 (-1))))] .ret) .skip)) (sR [fD 11 1 2,lA 12 2 11,mV 13 1,oP 14 (.call 37 [.t 12,.t 13]),mV 1 14] (.seq (sR [mV 15 1,oP 16 (.bin .lss (.t 15) (.c i0))] (cD 16 (sR [oP 4 (.mv (.c (.int .i64 (-1))))] .ret) .skip)) (sR [fD 17 3 2,lD 18 1 17,mV 19 1,oP 20 (.call 38 [.t 18,.t 19]),mV 1 20] (.seq (sR [mV 21 1,oP 22 (.bin .lss (.t 21) (.c i0))] (cD 22 (sR [oP 4 (.mv (.c (.int .i64 (-1))))] .ret) .skip)) (sR [mV 23 1,mV 4 23] .ret)))))))
theorem dg11:Dg Tryz.prog 11 Tryz.f11 ic11 [(.t 4)]:=⟨Tryz.func11,by kernel_rfl,by kernel_rfl⟩
theorem z33 (k:Int):FnR Tryz.prog G 33 [.sl 10 [],.int .i64 k] (.int .i64 k):=by
 refine mF dg33 Tryz.ntmps33 ?_
 simp only[ic33,go_sem]
 with_reducible repeat' (first|refine br ?_ ?_<;>intro h e<;>(try simp only[e,go_sem])<;>clear e|rw[q00 (by omega)]|refine sd ?_<;>try simp only[go_sem]|fail)
 refine q0d (λi:Nat=>⟨q0e [(0,.sl 10 []),(1,.int .i64 k),(5,.int .i64 (i:Int))],q01 []⟩) (λi=>0 - i) (λi=>i=0) 0 (leQ []) rfl ?_
 rintro i rfl
 simp only[go_sem]
 with_reducible repeat' (first|refine br ?_ ?_<;>intro h e<;>(try simp only[e,go_sem])<;>clear e|rw[q00 (by omega)]|refine sd ?_<;>try simp only[go_sem]|fail)
theorem z36 (k:Int):FnR Tryz.prog G 36 [.sl 10 [],.int .i64 k] (.int .i64 k):=by
 refine mF dg36 Tryz.ntmps36 ?_
 simp only[ic36,go_sem]
 with_reducible repeat' (first|refine br ?_ ?_<;>intro h e<;>(try simp only[e,go_sem])<;>clear e|rw[q00 (by omega)]|refine sd ?_<;>try simp only[go_sem]|fail)
 refine q0d (λi:Nat=>⟨q0e [(0,.sl 10 []),(1,.int .i64 k),(5,.int .i64 (i:Int))],q01 []⟩) (λi=>0 - i) (λi=>i=0) 0 (leQ []) rfl ?_
 rintro i rfl
 simp only[go_sem]
 with_reducible repeat' (first|refine br ?_ ?_<;>intro h e<;>(try simp only[e,go_sem])<;>clear e|rw[q00 (by omega)]|refine sd ?_<;>try simp only[go_sem]|fail)
theorem z73 (k:Int):FnR Tryz.prog G 73 [.sl 3 [],.int .i64 k] (.int .i64 k):=by
 refine mF dg73 Tryz.ntmps73 ?_
 simp only[ic73,go_sem]
 with_reducible repeat' (first|refine br ?_ ?_<;>intro h e<;>(try simp only[e,go_sem])<;>clear e|rw[q00 (by omega)]|refine sd ?_<;>try simp only[go_sem]|fail)
 refine q0d (λi:Nat=>⟨q0e [(0,.sl 3 []),(1,.int .i64 k),(5,.int .i64 (i:Int))],q01 []⟩) (λi=>0 - i) (λi=>i=0) 0 (leQ []) rfl ?_
 rintro i rfl
 simp only[go_sem]
 with_reducible repeat' (first|refine br ?_ ?_<;>intro h e<;>(try simp only[e,go_sem])<;>clear e|rw[q00 (by omega)]|refine sd ?_<;>try simp only[go_sem]|fail)
theorem z75 (k:Int):FnR Tryz.prog G 75 [.sl 3 [],.int .i64 k] (.int .i64 k):=by
 refine mF dg75 Tryz.ntmps75 ?_
 simp only[ic75,go_sem]
 with_reducible repeat' (first|refine br ?_ ?_<;>intro h e<;>(try simp only[e,go_sem])<;>clear e|rw[q00 (by omega)]|refine sd ?_<;>try simp only[go_sem]|fail)
 refine q0d (λi:Nat=>⟨q0e [(0,.sl 3 []),(1,.int .i64 k),(5,.int .i64 (i:Int))],q01 []⟩) (λi=>0 - i) (λi=>i=0) 0 (leQ []) rfl ?_
 rintro i rfl
 simp only[go_sem]
 with_reducible repeat' (first|refine br ?_ ?_<;>intro h e<;>(try simp only[e,go_sem])<;>clear e|rw[q00 (by omega)]|refine sd ?_<;>try simp only[go_sem]|fail)
theorem z74 (k:Int):FnR Tryz.prog G 74 [.sl 8 [],.int .i64 k] (.int .i64 k):=by
 refine mF dg74 Tryz.ntmps74 ?_
 simp only[ic74,go_sem]
 with_reducible repeat' (first|refine br ?_ ?_<;>intro h e<;>(try simp only[e,go_sem])<;>clear e|rw[q00 (by omega)]|refine sd ?_<;>try simp only[go_sem]|fail)
 refine q0d (λi:Nat=>⟨q0e [(0,.sl 8 []),(1,.int .i64 k),(5,.int .i64 (i:Int))],q01 []⟩) (λi=>0 - i) (λi=>i=0) 0 (leQ []) rfl ?_
 rintro i rfl
 simp only[go_sem]
 with_reducible repeat' (first|refine br ?_ ?_<;>intro h e<;>(try simp only[e,go_sem])<;>clear e|rw[q00 (by omega)]|refine sd ?_<;>try simp only[go_sem]|fail)
theorem z76 (k:Int):FnR Tryz.prog G 76 [.sl 8 [],.int .i64 k] (.int .i64 k):=by
 refine mF dg76 Tryz.ntmps76 ?_
 simp only[ic76,go_sem]
 with_reducible repeat' (first|refine br ?_ ?_<;>intro h e<;>(try simp only[e,go_sem])<;>clear e|rw[q00 (by omega)]|refine sd ?_<;>try simp only[go_sem]|fail)
 refine q0d (λi:Nat=>⟨q0e [(0,.sl 8 []),(1,.int .i64 k),(5,.int .i64 (i:Int))],q01 []⟩) (λi=>0 - i) (λi=>i=0) 0 (leQ []) rfl ?_
 rintro i rfl
 simp only[go_sem]
 with_reducible repeat' (first|refine br ?_ ?_<;>intro h e<;>(try simp only[e,go_sem])<;>clear e|rw[q00 (by omega)]|refine sd ?_<;>try simp only[go_sem]|fail)
theorem z35 (k:Int):FnR Tryz.prog G 35 [.sl 7 [],.int .i64 k] (.int .i64 k):=by
 refine mF dg35 Tryz.ntmps35 ?_
 simp only[ic35,go_sem]
 with_reducible repeat' (first|refine br ?_ ?_<;>intro h e<;>(try simp only[e,go_sem])<;>clear e|rw[q00 (by omega)]|refine sd ?_<;>try simp only[go_sem]|fail)
 refine q0d (λi:Nat=>⟨q0e [(0,.sl 7 []),(1,.int .i64 k),(5,.int .i64 (i:Int))],q01 []⟩) (λi=>0 - i) (λi=>i=0) 0 (leQ []) rfl ?_
 rintro i rfl
 simp only[go_sem]
 with_reducible repeat' (first|refine br ?_ ?_<;>intro h e<;>(try simp only[e,go_sem])<;>clear e|rw[q00 (by omega)]|refine sd ?_<;>try simp only[go_sem]|fail)
theorem z38 (k:Int):FnR Tryz.prog G 38 [.sl 7 [],.int .i64 k] (.int .i64 k):=by
 refine mF dg38 Tryz.ntmps38 ?_
 simp only[ic38,go_sem]
 with_reducible repeat' (first|refine br ?_ ?_<;>intro h e<;>(try simp only[e,go_sem])<;>clear e|rw[q00 (by omega)]|refine sd ?_<;>try simp only[go_sem]|fail)
 refine q0d (λi:Nat=>⟨q0e [(0,.sl 7 []),(1,.int .i64 k),(5,.int .i64 (i:Int))],q01 []⟩) (λi=>0 - i) (λi=>i=0) 0 (leQ []) rfl ?_
 rintro i rfl
 simp only[go_sem]
 with_reducible repeat' (first|refine br ?_ ?_<;>intro h e<;>(try simp only[e,go_sem])<;>clear e|rw[q00 (by omega)]|refine sd ?_<;>try simp only[go_sem]|fail)
theorem z34 (k:Int):FnR Tryz.prog G 34 [.agg [.sl 3 [],.sl 8 []],.int .i64 k] (.int .i64 k):=by
 refine mF dg34 Tryz.ntmps34 ?_
 have c1:=z73 k
 have c2:=z74 k
 have hn:=True.intro
 simp only[ic34,go_sem]
 with_reducible repeat' (first|refine br ?_ ?_<;>intro h e<;>(try simp only[e,go_sem,hn])<;>clear e|rw[q00 (by omega)]|refine sd ?_<;>try simp only[go_sem,hn]|(first|refine cr (c1 ..) ?_|refine cr (c2 ..) ?_)<;>try simp only[go_sem,hn]|fail)
theorem z10 (k:Int):FnR Tryz.prog G 10 [.agg [.sl 10 [],.sl 3 [],.sl 8 [],.sl 7 []],.int .i64 k] (.int .i64 k):=by
 refine mF dg10 Tryz.ntmps10 ?_
 have c1:=z33 k
 have c2:=z34 k
 have c3:=z35 k
 have hn:=True.intro
 simp only[ic10,go_sem]
 with_reducible repeat' (first|refine br ?_ ?_<;>intro h e<;>(try simp only[e,go_sem,hn])<;>clear e|rw[q00 (by omega)]|refine sd ?_<;>try simp only[go_sem,hn]|(first|refine cr (c1 ..) ?_|refine cr (c2 ..) ?_|refine cr (c3 ..) ?_)<;>try simp only[go_sem,hn]|fail)
theorem z37 (k:Int) (hk:0≤k):FnR Tryz.prog G 37 [.agg [.sl 3 [],.sl 8 []],.int .i64 k] (.int .i64 k):=by
 refine mF dg37 Tryz.ntmps37 ?_
 have c1:=z75 k
 have c2:=z76 k
 have hn:¬k<0:=by omega
 simp only[ic37,go_sem]
 with_reducible repeat' (first|refine br ?_ ?_<;>intro h e<;>(try simp only[e,go_sem,hn])<;>clear e|rw[q00 (by omega)]|refine sd ?_<;>try simp only[go_sem,hn]|(first|refine cr (c1 ..) ?_|refine cr (c2 ..) ?_)<;>try simp only[go_sem,hn]|fail)
theorem z11 (k:Int) (hk:0≤k):FnR Tryz.prog G 11 [.agg [.sl 10 [],.sl 3 [],.sl 8 [],.sl 7 []],.int .i64 k] (.int .i64 k):=by
 refine mF dg11 Tryz.ntmps11 ?_
 have c1:=z36 k
 have c2:=z37 k hk
 have c3:=z38 k
 have hn:¬k<0:=by omega
 simp only[ic11,go_sem]
 with_reducible repeat' (first|refine br ?_ ?_<;>intro h e<;>(try simp only[e,go_sem,hn])<;>clear e|rw[q00 (by omega)]|refine sd ?_<;>try simp only[go_sem,hn]|(first|refine cr (c1 ..) ?_|refine cr (c2 ..) ?_|refine cr (c3 ..) ?_)<;>try simp only[go_sem,hn]|fail)
end Go.Proofs.YtpppoklkijmeoaaGreatDoor.W
namespace Go.Proofs.YtpppoklkijmeoaaGreatDoor.W
open Go Go.RowKit Go.Proofs Go.Proofs.YtpppoklkijmeoaaGreatDoor.VL Go.Proofs.YtpppoklkijmeoaaGreatDoor.M
attribute [local go_sem] q1j qne qz5
def j04:IC:=sR [oP 1 (.box 204 (.t 0)),oP 2 (.alloc 167 [i0,s0])] (sR [oP 3 (.alloc 167 [i0,s0])] (sR [fD 4 0 1,lD 5 1 4,fD 6 0 3,nP (.sto 1 (.t 6) (.t 5))] (sR [fD 7 1 1,lD 8 1 7,fD 9 1 3,nP (.sto 1 (.t 9) (.t 8))] (sR [lA 10 2 3,nP (.sto 2 (.t 2) (.t 10))] .ret))))
theorem dg183:Dg Tryz.prog 183 Tryz.f183 j04 [(.cell 2 2 true)]:=⟨Tryz.func183,by kernel_rfl,by kernel_rfl⟩
theorem c183 (x:Part):FnR Tryz.prog G 183 [.agg [.int .i64 x.size,.str x.text]] (.agg [.int .i64 x.size,.str x.text]):=by
 refine mF dg183 Tryz.ntmps183 ?_
 simp only[j04,go_sem]
def quv:IC:=sR [oP 1 (.box 143 (.t 0)),oP 2 (.alloc 132 [i0,i0,i0])] (sR [oP 3 (.alloc 132 [i0,i0,i0])] (sR [fD 4 0 1,lD 5 1 4,fD 6 0 3,nP (.sto 1 (.t 6) (.t 5))] (sR [fD 7 1 1,lA 8 2 7,oP 9 (.call 80 [.t 8]),fD 10 1 3,nP (.sto 2 (.t 10) (.t 9))] (sR [lA 11 3 3,nP (.sto 3 (.t 2) (.t 11))] .ret))))
theorem dg100:Dg Tryz.prog 100 Tryz.f100 quv [(.cell 2 3 true)]:=⟨Tryz.func100,by kernel_rfl,by kernel_rfl⟩
theorem c100 (x:Pair):FnR Tryz.prog G 100 [.agg [.int .i64 x.port,.int .i64 x.ins.a,.int .i64 x.ins.p]] (.agg [.int .i64 x.port,.int .i64 x.ins.a,.int .i64 x.ins.p]):=by
 refine mF dg100 Tryz.ntmps100 ?_
 simp only[quv,go_sem]
 have c1:=c80 x.ins
 with_reducible repeat' (first|refine br ?_ ?_<;>intro h e<;>(try simp only[e,go_sem])<;>clear e|rw[q00 (by omega)]|refine sd ?_<;>try simp only[go_sem]|(first|refine cr (c1 ..) ?_)<;>try simp only[go_sem]|fail)
def qo1:IC:=sR [oP 2 (.mv (.c .nils))] (sR [mV 5 0,oP 6 (.len (.t 5)),oP 7 (.mkl 167 2 [i0,s0] (.t 6)),mV 3 7] (.seq (sR [oP 4 (.mv (.c i0))] (.block 0 (.loop (.seq (sR [mV 8 4,mV 9 0,oP 10 (.len (.t 9)),bN 11 .lss 8 10] (cD 11 .skip (.exit 0))) (.seq (.block 1 (.reg [mV 14 3,mV 15 4,mV 16 0,mV 17 4,oP 18 (.iad 2 (.t 16) (.t 17)),lA 19 2 18,oP 20 (.call 183 [.t 19]),oP 21 (.iad 2 (.t 14) (.t 15)),nP (.sto 2 (.t 21) (.t 20))])) (.reg [mV 12 4,oP 13 (.bin .add (.t 12) (cI 1)),mV 4 13])))))) (sR [mV 22 3,mV 2 22] .ret)))
theorem qyz:Dg Tryz.prog 157 Tryz.f157 qo1 [(.t 2)]:=⟨Tryz.func157,by kernel_rfl,by kernel_rfl⟩
set_option maxHeartbeats 1000000 in
theorem c157 (l:List Part) (hl:l.length≤1048576):FnP Tryz.prog G 157 0 [] [.sl 2 (l.map Part.row)] (λr o=>r=.own 0 l.length∧o=[.arr 167 2 (l.map Part.row)]):=by
 refine mP qyz Tryz.ntmps157 ⟨_,_,rfl,rfl⟩ ?_
 simp only[qo1,go_sem]
 with_reducible repeat' (first|refine br ?_ ?_<;>intro h e<;>(try simp only[e,go_sem])<;>clear e|rw[q00 (by omega)]|refine sd ?_<;>try simp only[go_sem]|fail)
 obtain⟨Z,hZ⟩:∃Z:List V,Z=Part.row default:=⟨_,rfl⟩
 refine q0d (λi:Nat=>⟨q0e [(0,.sl 2 (l.map Part.row)),(3,.own 3000007 l.length),(4,.int .i64 (i:Int))],q01 [(3000007,.arr 167 2 ((l.take i).map Part.row++List.replicate (l.length - i) Z))]⟩) (λi=>l.length - i) (λi=>i≤l.length) 0
  (leN [] (by simp only[go_sem];first|done|omega|rfl) (by simp only[go_sem,List.take_zero,List.map_nil,List.nil_append,Nat.sub_zero,hZ];first|done|rfl) (by simp[q0f]) (by simp only[go_sem])) (Nat.zero_le _) ?_
 intro i hi
 by_cases h:(i:Int)<l.length
 ·have hil:i<l.length:=by omega
  have hg:l.getD i default=l[i]:=by simp[List.getD,hil]
  have e1:List.replicate (l.length - i) Z=Z::List.replicate (l.length - (i+1)) Z:=by rw[show l.length - i=l.length - (i+1)+1 by omega,List.replicate_succ]
  have e0:l.take (i+1)=l.take i++[l[i]]:=by rw[List.take_add_one];simp[hil]
  have e2:(l.take (i+1)).map Part.row=(l.take i).map Part.row++[Part.row l[i]]:=by rw[e0,List.map_append];rfl
  have hZd:Z.drop 2=[]:=by rw[hZ];rfl
  obtain⟨A,hA⟩:∃A,(l.take i).map Part.row=A:=⟨_,rfl⟩
  have hAl:A.length=i:=by rw[←hA];simp;omega
  have g1:=q2p A (List.replicate (l.length - (i+1)) Z)
  have g2:=q2o A (List.replicate (l.length - (i+1)) Z)
  rw[hAl] at g1 g2
  have c1:=c183 l[i]
  have lA:(A++Z::List.replicate (l.length - (i+1)) Z).length=l.length:=by simp[hAl];omega
  simp only[hA,e1]
  simp only[eq_true h,go_sem]
  with_reducible repeat' (first|refine br ?_ ?_<;>intro h e<;>(try simp only[e,go_sem,hg,g1,g2,lA,hZd])<;>clear e|rw[q00 (by omega)]|refine sd ?_<;>try simp only[go_sem,hg,g1,g2,lA,hZd]|(first|refine cr (c1 ..) ?_)<;>try simp only[go_sem,hg,g1,g2,lA,hZd]|fail)
  exact⟨i+1,by omega,by omega,leN [] (by simp only[go_sem];first|done|omega|rfl) (by simp only[go_sem,e2,hA,List.append_assoc,hZd];first|done|rfl) (by simp[q0f]) (by simp only[go_sem])⟩
 ·simp only[eq_false h,go_sem]
  have:i=l.length:=by omega
  subst this
  simp only[List.take_length,Nat.sub_self,List.replicate_zero,List.append_nil]
  with_reducible repeat' (first|refine br ?_ ?_<;>intro h e<;>(try simp only[e,go_sem])<;>clear e|rw[q00 (by omega)]|refine sd ?_<;>try simp only[go_sem]|fail)
  exact q1h (.own 0 l.length) [.arr 167 2 (l.map Part.row)] [(0,3000007)] (by simp only[go_sem]) ⟨rfl,rfl⟩ (by simp only[go_sem]) (by simp[q11,q0f]) (by simp only[go_sem])
def ic53:IC:=sR [oP 2 (.mv (.c .nils))] (sR [mV 5 0,oP 6 (.len (.t 5)),oP 7 (.mkl 132 3 [i0,i0,i0] (.t 6)),mV 3 7] (.seq (sR [oP 4 (.mv (.c i0))] (.block 0 (.loop (.seq (sR [mV 8 4,mV 9 0,oP 10 (.len (.t 9)),bN 11 .lss 8 10] (cD 11 .skip (.exit 0))) (.seq (.block 1 (.reg [mV 14 3,mV 15 4,mV 16 0,mV 17 4,oP 18 (.iad 3 (.t 16) (.t 17)),lA 19 3 18,oP 20 (.call 100 [.t 19]),oP 21 (.iad 3 (.t 14) (.t 15)),nP (.sto 3 (.t 21) (.t 20))])) (.reg [mV 12 4,oP 13 (.bin .add (.t 12) (cI 1)),mV 4 13])))))) (sR [mV 22 3,mV 2 22] .ret)))
theorem dg53:Dg Tryz.prog 53 Tryz.f53 ic53 [(.t 2)]:=⟨Tryz.func53,by kernel_rfl,by kernel_rfl⟩
set_option maxHeartbeats 1000000 in
theorem c53 (l:List Pair) (hl:l.length≤1048576):FnP Tryz.prog G 53 0 [] [.sl 3 (l.map Pair.row)] (λr o=>r=.own 0 l.length∧o=[.arr 132 3 (l.map Pair.row)]):=by
 refine mP dg53 Tryz.ntmps53 ⟨_,_,rfl,rfl⟩ ?_
 simp only[ic53,go_sem]
 with_reducible repeat' (first|refine br ?_ ?_<;>intro h e<;>(try simp only[e,go_sem])<;>clear e|rw[q00 (by omega)]|refine sd ?_<;>try simp only[go_sem]|fail)
 obtain⟨Z,hZ⟩:∃Z:List V,Z=Pair.row default:=⟨_,rfl⟩
 refine q0d (λi:Nat=>⟨q0e [(0,.sl 3 (l.map Pair.row)),(3,.own 3000007 l.length),(4,.int .i64 (i:Int))],q01 [(3000007,.arr 132 3 ((l.take i).map Pair.row++List.replicate (l.length - i) Z))]⟩) (λi=>l.length - i) (λi=>i≤l.length) 0
  (leN [] (by simp only[go_sem];first|done|omega|rfl) (by simp only[go_sem,List.take_zero,List.map_nil,List.nil_append,Nat.sub_zero,hZ];first|done|rfl) (by simp[q0f]) (by simp only[go_sem])) (Nat.zero_le _) ?_
 intro i hi
 by_cases h:(i:Int)<l.length
 ·have hil:i<l.length:=by omega
  have hg:l.getD i default=l[i]:=by simp[List.getD,hil]
  have e1:List.replicate (l.length - i) Z=Z::List.replicate (l.length - (i+1)) Z:=by rw[show l.length - i=l.length - (i+1)+1 by omega,List.replicate_succ]
  have e0:l.take (i+1)=l.take i++[l[i]]:=by rw[List.take_add_one];simp[hil]
  have e2:(l.take (i+1)).map Pair.row=(l.take i).map Pair.row++[Pair.row l[i]]:=by rw[e0,List.map_append];rfl
  have hZd:Z.drop 3=[]:=by rw[hZ];rfl
  obtain⟨A,hA⟩:∃A,(l.take i).map Pair.row=A:=⟨_,rfl⟩
  have hAl:A.length=i:=by rw[←hA];simp;omega
  have g1:=q2p A (List.replicate (l.length - (i+1)) Z)
  have g2:=q2o A (List.replicate (l.length - (i+1)) Z)
  rw[hAl] at g1 g2
  have c1:=c100 l[i]
  have lA:(A++Z::List.replicate (l.length - (i+1)) Z).length=l.length:=by simp[hAl];omega
  simp only[hA,e1]
  simp only[eq_true h,go_sem]
  with_reducible repeat' (first|refine br ?_ ?_<;>intro h e<;>(try simp only[e,go_sem,hg,g1,g2,lA,hZd])<;>clear e|rw[q00 (by omega)]|refine sd ?_<;>try simp only[go_sem,hg,g1,g2,lA,hZd]|(first|refine cr (c1 ..) ?_)<;>try simp only[go_sem,hg,g1,g2,lA,hZd]|fail)
  exact⟨i+1,by omega,by omega,leN [] (by simp only[go_sem];first|done|omega|rfl) (by simp only[go_sem,e2,hA,List.append_assoc,hZd];first|done|rfl) (by simp[q0f]) (by simp only[go_sem])⟩
 ·simp only[eq_false h,go_sem]
  have:i=l.length:=by omega
  subst this
  simp only[List.take_length,Nat.sub_self,List.replicate_zero,List.append_nil]
  with_reducible repeat' (first|refine br ?_ ?_<;>intro h e<;>(try simp only[e,go_sem])<;>clear e|rw[q00 (by omega)]|refine sd ?_<;>try simp only[go_sem]|fail)
  exact q1h (.own 0 l.length) [.arr 132 3 (l.map Pair.row)] [(0,3000007)] (by simp only[go_sem]) ⟨rfl,rfl⟩ (by simp only[go_sem]) (by simp[q11,q0f]) (by simp only[go_sem])
def ic25:IC:=sR [oP 2 (.mv (.c .nils))] (sR [mV 5 0,oP 6 (.len (.t 5)),oP 7 (.mkl 54 7 [i0,i0,i0,i0,i0,i0,s0] (.t 6)),mV 3 7] (.seq (sR [oP 4 (.mv (.c i0))] (.block 0 (.loop (.seq (sR [mV 8 4,mV 9 0,oP 10 (.len (.t 9)),bN 11 .lss 8 10] (cD 11 .skip (.exit 0))) (.seq (.block 1 (.reg [mV 14 3,mV 15 4,mV 16 0,mV 17 4,oP 18 (.iad 7 (.t 16) (.t 17)),lA 19 7 18,oP 20 (.call 41 [.t 19]),oP 21 (.iad 7 (.t 14) (.t 15)),nP (.sto 7 (.t 21) (.t 20))])) (.reg [mV 12 4,oP 13 (.bin .add (.t 12) (cI 1)),mV 4 13])))))) (sR [mV 22 3,mV 2 22] .ret)))
theorem dg25:Dg Tryz.prog 25 Tryz.f25 ic25 [(.t 2)]:=⟨Tryz.func25,by kernel_rfl,by kernel_rfl⟩
set_option maxHeartbeats 1000000 in
theorem c25 (l:List Pk) (hl:l.length≤1048576):FnP Tryz.prog G 25 0 [] [.sl 7 (l.map Pk.row)] (λr o=>r=.own 0 l.length∧o=[.arr 54 7 (l.map Pk.row)]):=by
 refine mP dg25 Tryz.ntmps25 ⟨_,_,rfl,rfl⟩ ?_
 simp only[ic25,go_sem]
 with_reducible repeat' (first|refine br ?_ ?_<;>intro h e<;>(try simp only[e,go_sem])<;>clear e|rw[q00 (by omega)]|refine sd ?_<;>try simp only[go_sem]|fail)
 obtain⟨Z,hZ⟩:∃Z:List V,Z=Pk.row default:=⟨_,rfl⟩
 refine q0d (λi:Nat=>⟨q0e [(0,.sl 7 (l.map Pk.row)),(3,.own 3000007 l.length),(4,.int .i64 (i:Int))],q01 [(3000007,.arr 54 7 ((l.take i).map Pk.row++List.replicate (l.length - i) Z))]⟩) (λi=>l.length - i) (λi=>i≤l.length) 0
  (leN [] (by simp only[go_sem];first|done|omega|rfl) (by simp only[go_sem,List.take_zero,List.map_nil,List.nil_append,Nat.sub_zero,hZ];first|done|rfl) (by simp[q0f]) (by simp only[go_sem])) (Nat.zero_le _) ?_
 intro i hi
 by_cases h:(i:Int)<l.length
 ·have hil:i<l.length:=by omega
  have hg:l.getD i default=l[i]:=by simp[List.getD,hil]
  have e1:List.replicate (l.length - i) Z=Z::List.replicate (l.length - (i+1)) Z:=by rw[show l.length - i=l.length - (i+1)+1 by omega,List.replicate_succ]
  have e0:l.take (i+1)=l.take i++[l[i]]:=by rw[List.take_add_one];simp[hil]
  have e2:(l.take (i+1)).map Pk.row=(l.take i).map Pk.row++[Pk.row l[i]]:=by rw[e0,List.map_append];rfl
  have hZd:Z.drop 7=[]:=by rw[hZ];rfl
  obtain⟨A,hA⟩:∃A,(l.take i).map Pk.row=A:=⟨_,rfl⟩
  have hAl:A.length=i:=by rw[←hA];simp;omega
  have g1:=q2p A (List.replicate (l.length - (i+1)) Z)
  have g2:=q2o A (List.replicate (l.length - (i+1)) Z)
  rw[hAl] at g1 g2
  have c1:=c41 l[i]
  have lA:(A++Z::List.replicate (l.length - (i+1)) Z).length=l.length:=by simp[hAl];omega
  simp only[hA,e1]
  simp only[eq_true h,go_sem]
  with_reducible repeat' (first|refine br ?_ ?_<;>intro h e<;>(try simp only[e,go_sem,hg,g1,g2,lA,hZd])<;>clear e|rw[q00 (by omega)]|refine sd ?_<;>try simp only[go_sem,hg,g1,g2,lA,hZd]|(first|refine cr (c1 ..) ?_)<;>try simp only[go_sem,hg,g1,g2,lA,hZd]|fail)
  exact⟨i+1,by omega,by omega,leN [] (by simp only[go_sem];first|done|omega|rfl) (by simp only[go_sem,e2,hA,List.append_assoc,hZd];first|done|rfl) (by simp[q0f]) (by simp only[go_sem])⟩
 ·simp only[eq_false h,go_sem]
  have:i=l.length:=by omega
  subst this
  simp only[List.take_length,Nat.sub_self,List.replicate_zero,List.append_nil]
  with_reducible repeat' (first|refine br ?_ ?_<;>intro h e<;>(try simp only[e,go_sem])<;>clear e|rw[q00 (by omega)]|refine sd ?_<;>try simp only[go_sem]|fail)
  exact q1h (.own 0 l.length) [.arr 54 7 (l.map Pk.row)] [(0,3000007)] (by simp only[go_sem]) ⟨rfl,rfl⟩ (by simp only[go_sem]) (by simp[q11,q0f]) (by simp only[go_sem])
set_option maxHeartbeats 1000000 in
theorem x157 (l:List Part) (hl:l.length≤1048576):FnR Tryz.prog G 157 [.sl 2 (l.map Part.row)] (.sl 2 (l.map Part.row)):=by
 refine mF qyz Tryz.ntmps157 ?_
 simp only[qo1,go_sem]
 with_reducible repeat' (first|refine br ?_ ?_<;>intro h e<;>(try simp only[e,go_sem])<;>clear e|rw[q00 (by omega)]|refine sd ?_<;>try simp only[go_sem]|fail)
 obtain⟨Z,hZ⟩:∃Z:List V,Z=Part.row default:=⟨_,rfl⟩
 refine q0d (λi:Nat=>⟨q0e [(0,.sl 2 (l.map Part.row)),(3,.own 3000007 l.length),(4,.int .i64 (i:Int))],q01 [(3000007,.arr 167 2 ((l.take i).map Part.row++List.replicate (l.length - i) Z))]⟩) (λi=>l.length - i) (λi=>i≤l.length) 0
  (leN [] (by simp only[go_sem];first|done|omega|rfl) (by simp only[go_sem,List.take_zero,List.map_nil,List.nil_append,Nat.sub_zero,hZ];first|done|rfl) (by simp[q0f]) (by simp only[go_sem])) (Nat.zero_le _) ?_
 intro i hi
 by_cases h:(i:Int)<l.length
 ·have hil:i<l.length:=by omega
  have hg:l.getD i default=l[i]:=by simp[List.getD,hil]
  have e1:List.replicate (l.length - i) Z=Z::List.replicate (l.length - (i+1)) Z:=by rw[show l.length - i=l.length - (i+1)+1 by omega,List.replicate_succ]
  have e0:l.take (i+1)=l.take i++[l[i]]:=by rw[List.take_add_one];simp[hil]
  have e2:(l.take (i+1)).map Part.row=(l.take i).map Part.row++[Part.row l[i]]:=by rw[e0,List.map_append];rfl
  have hZd:Z.drop 2=[]:=by rw[hZ];rfl
  obtain⟨A,hA⟩:∃A,(l.take i).map Part.row=A:=⟨_,rfl⟩
  have hAl:A.length=i:=by rw[←hA];simp;omega
  have g1:=q2p A (List.replicate (l.length - (i+1)) Z)
  have g2:=q2o A (List.replicate (l.length - (i+1)) Z)
  rw[hAl] at g1 g2
  have c1:=c183 l[i]
  have lA:(A++Z::List.replicate (l.length - (i+1)) Z).length=l.length:=by simp[hAl];omega
  simp only[hA,e1]
  simp only[eq_true h,go_sem]
  with_reducible repeat' (first|refine br ?_ ?_<;>intro h e<;>(try simp only[e,go_sem,hg,g1,g2,lA,hZd])<;>clear e|rw[q00 (by omega)]|refine sd ?_<;>try simp only[go_sem,hg,g1,g2,lA,hZd]|(first|refine cr (c1 ..) ?_)<;>try simp only[go_sem,hg,g1,g2,lA,hZd]|fail)
  exact⟨i+1,by omega,by omega,leN [] (by simp only[go_sem];first|done|omega|rfl) (by simp only[go_sem,e2,hA,List.append_assoc,hZd];first|done|rfl) (by simp[q0f]) (by simp only[go_sem])⟩
 ·simp only[eq_false h,go_sem]
  have:i=l.length:=by omega
  subst this
  simp only[List.take_length,Nat.sub_self,List.replicate_zero,List.append_nil]
  with_reducible repeat' (first|refine br ?_ ?_<;>intro h e<;>(try simp only[e,go_sem])<;>clear e|rw[q00 (by omega)]|refine sd ?_<;>try simp only[go_sem]|fail)
  all_goals first|done|rfl
set_option maxHeartbeats 1000000 in
theorem x53 (l:List Pair) (hl:l.length≤1048576):FnR Tryz.prog G 53 [.sl 3 (l.map Pair.row)] (.sl 3 (l.map Pair.row)):=by
 refine mF dg53 Tryz.ntmps53 ?_
 simp only[ic53,go_sem]
 with_reducible repeat' (first|refine br ?_ ?_<;>intro h e<;>(try simp only[e,go_sem])<;>clear e|rw[q00 (by omega)]|refine sd ?_<;>try simp only[go_sem]|fail)
 obtain⟨Z,hZ⟩:∃Z:List V,Z=Pair.row default:=⟨_,rfl⟩
 refine q0d (λi:Nat=>⟨q0e [(0,.sl 3 (l.map Pair.row)),(3,.own 3000007 l.length),(4,.int .i64 (i:Int))],q01 [(3000007,.arr 132 3 ((l.take i).map Pair.row++List.replicate (l.length - i) Z))]⟩) (λi=>l.length - i) (λi=>i≤l.length) 0
  (leN [] (by simp only[go_sem];first|done|omega|rfl) (by simp only[go_sem,List.take_zero,List.map_nil,List.nil_append,Nat.sub_zero,hZ];first|done|rfl) (by simp[q0f]) (by simp only[go_sem])) (Nat.zero_le _) ?_
 intro i hi
 by_cases h:(i:Int)<l.length
 ·have hil:i<l.length:=by omega
  have hg:l.getD i default=l[i]:=by simp[List.getD,hil]
  have e1:List.replicate (l.length - i) Z=Z::List.replicate (l.length - (i+1)) Z:=by rw[show l.length - i=l.length - (i+1)+1 by omega,List.replicate_succ]
  have e0:l.take (i+1)=l.take i++[l[i]]:=by rw[List.take_add_one];simp[hil]
  have e2:(l.take (i+1)).map Pair.row=(l.take i).map Pair.row++[Pair.row l[i]]:=by rw[e0,List.map_append];rfl
  have hZd:Z.drop 3=[]:=by rw[hZ];rfl
  obtain⟨A,hA⟩:∃A,(l.take i).map Pair.row=A:=⟨_,rfl⟩
  have hAl:A.length=i:=by rw[←hA];simp;omega
  have g1:=q2p A (List.replicate (l.length - (i+1)) Z)
  have g2:=q2o A (List.replicate (l.length - (i+1)) Z)
  rw[hAl] at g1 g2
  have c1:=c100 l[i]
  have lA:(A++Z::List.replicate (l.length - (i+1)) Z).length=l.length:=by simp[hAl];omega
  simp only[hA,e1]
  simp only[eq_true h,go_sem]
  with_reducible repeat' (first|refine br ?_ ?_<;>intro h e<;>(try simp only[e,go_sem,hg,g1,g2,lA,hZd])<;>clear e|rw[q00 (by omega)]|refine sd ?_<;>try simp only[go_sem,hg,g1,g2,lA,hZd]|(first|refine cr (c1 ..) ?_)<;>try simp only[go_sem,hg,g1,g2,lA,hZd]|fail)
  exact⟨i+1,by omega,by omega,leN [] (by simp only[go_sem];first|done|omega|rfl) (by simp only[go_sem,e2,hA,List.append_assoc,hZd];first|done|rfl) (by simp[q0f]) (by simp only[go_sem])⟩
 ·simp only[eq_false h,go_sem]
  have:i=l.length:=by omega
  subst this
  simp only[List.take_length,Nat.sub_self,List.replicate_zero,List.append_nil]
  with_reducible repeat' (first|refine br ?_ ?_<;>intro h e<;>(try simp only[e,go_sem])<;>clear e|rw[q00 (by omega)]|refine sd ?_<;>try simp only[go_sem]|fail)
  all_goals first|done|rfl
set_option maxHeartbeats 1000000 in
theorem x25 (l:List Pk) (hl:l.length≤1048576):FnR Tryz.prog G 25 [.sl 7 (l.map Pk.row)] (.sl 7 (l.map Pk.row)):=by
 refine mF dg25 Tryz.ntmps25 ?_
 simp only[ic25,go_sem]
 with_reducible repeat' (first|refine br ?_ ?_<;>intro h e<;>(try simp only[e,go_sem])<;>clear e|rw[q00 (by omega)]|refine sd ?_<;>try simp only[go_sem]|fail)
 obtain⟨Z,hZ⟩:∃Z:List V,Z=Pk.row default:=⟨_,rfl⟩
 refine q0d (λi:Nat=>⟨q0e [(0,.sl 7 (l.map Pk.row)),(3,.own 3000007 l.length),(4,.int .i64 (i:Int))],q01 [(3000007,.arr 54 7 ((l.take i).map Pk.row++List.replicate (l.length - i) Z))]⟩) (λi=>l.length - i) (λi=>i≤l.length) 0
  (leN [] (by simp only[go_sem];first|done|omega|rfl) (by simp only[go_sem,List.take_zero,List.map_nil,List.nil_append,Nat.sub_zero,hZ];first|done|rfl) (by simp[q0f]) (by simp only[go_sem])) (Nat.zero_le _) ?_
 intro i hi
 by_cases h:(i:Int)<l.length
 ·have hil:i<l.length:=by omega
  have hg:l.getD i default=l[i]:=by simp[List.getD,hil]
  have e1:List.replicate (l.length - i) Z=Z::List.replicate (l.length - (i+1)) Z:=by rw[show l.length - i=l.length - (i+1)+1 by omega,List.replicate_succ]
  have e0:l.take (i+1)=l.take i++[l[i]]:=by rw[List.take_add_one];simp[hil]
  have e2:(l.take (i+1)).map Pk.row=(l.take i).map Pk.row++[Pk.row l[i]]:=by rw[e0,List.map_append];rfl
  have hZd:Z.drop 7=[]:=by rw[hZ];rfl
  obtain⟨A,hA⟩:∃A,(l.take i).map Pk.row=A:=⟨_,rfl⟩
  have hAl:A.length=i:=by rw[←hA];simp;omega
  have g1:=q2p A (List.replicate (l.length - (i+1)) Z)
  have g2:=q2o A (List.replicate (l.length - (i+1)) Z)
  rw[hAl] at g1 g2
  have c1:=c41 l[i]
  have lA:(A++Z::List.replicate (l.length - (i+1)) Z).length=l.length:=by simp[hAl];omega
  simp only[hA,e1]
  simp only[eq_true h,go_sem]
  with_reducible repeat' (first|refine br ?_ ?_<;>intro h e<;>(try simp only[e,go_sem,hg,g1,g2,lA,hZd])<;>clear e|rw[q00 (by omega)]|refine sd ?_<;>try simp only[go_sem,hg,g1,g2,lA,hZd]|(first|refine cr (c1 ..) ?_)<;>try simp only[go_sem,hg,g1,g2,lA,hZd]|fail)
  exact⟨i+1,by omega,by omega,leN [] (by simp only[go_sem];first|done|omega|rfl) (by simp only[go_sem,e2,hA,List.append_assoc,hZd];first|done|rfl) (by simp[q0f]) (by simp only[go_sem])⟩
 ·simp only[eq_false h,go_sem]
  have:i=l.length:=by omega
  subst this
  simp only[List.take_length,Nat.sub_self,List.replicate_zero,List.append_nil]
  with_reducible repeat' (first|refine br ?_ ?_<;>intro h e<;>(try simp only[e,go_sem])<;>clear e|rw[q00 (by omega)]|refine sd ?_<;>try simp only[go_sem]|fail)
  all_goals first|done|rfl
set_option maxHeartbeats 1000000 in
theorem x23 (l:List Conv) (hl:l.length≤1048576):FnR Tryz.prog G 23 [.sl 10 (l.map Conv.row)] (.sl 10 (l.map Conv.row)):=by
 refine mF dg23 Tryz.ntmps23 ?_
 simp only[ic23,go_sem]
 with_reducible repeat' (first|refine br ?_ ?_<;>intro h e<;>(try simp only[e,go_sem])<;>clear e|rw[q00 (by omega)]|refine sd ?_<;>try simp only[go_sem]|fail)
 obtain⟨Z,hZ⟩:∃Z:List V,Z=Conv.row default:=⟨_,rfl⟩
 refine q0d (λi:Nat=>⟨q0e [(0,.sl 10 (l.map Conv.row)),(3,.own 3000007 l.length),(4,.int .i64 (i:Int))],q01 [(3000007,.arr 91 10 ((l.take i).map Conv.row++List.replicate (l.length - i) Z))]⟩) (λi=>l.length - i) (λi=>i≤l.length) 0
  (leN [] (by simp only[go_sem];first|done|omega|rfl) (by simp only[go_sem,List.take_zero,List.map_nil,List.nil_append,Nat.sub_zero,hZ];first|done|rfl) (by simp[q0f]) (by simp only[go_sem])) (Nat.zero_le _) ?_
 intro i hi
 by_cases h:(i:Int)<l.length
 ·have hil:i<l.length:=by omega
  have hg:l.getD i default=l[i]:=by simp[List.getD,hil]
  have e1:List.replicate (l.length - i) Z=Z::List.replicate (l.length - (i+1)) Z:=by rw[show l.length - i=l.length - (i+1)+1 by omega,List.replicate_succ]
  have e0:l.take (i+1)=l.take i++[l[i]]:=by rw[List.take_add_one];simp[hil]
  have e2:(l.take (i+1)).map Conv.row=(l.take i).map Conv.row++[Conv.row l[i]]:=by rw[e0,List.map_append];rfl
  have hZd:Z.drop 10=[]:=by rw[hZ];rfl
  obtain⟨A,hA⟩:∃A,(l.take i).map Conv.row=A:=⟨_,rfl⟩
  have hAl:A.length=i:=by rw[←hA];simp;omega
  have g1:=q2p A (List.replicate (l.length - (i+1)) Z)
  have g2:=q2o A (List.replicate (l.length - (i+1)) Z)
  rw[hAl] at g1 g2
  have c1:=c52 l[i]
  have lA:(A++Z::List.replicate (l.length - (i+1)) Z).length=l.length:=by simp[hAl];omega
  simp only[hA,e1]
  simp only[eq_true h,go_sem]
  with_reducible repeat' (first|refine br ?_ ?_<;>intro h e<;>(try simp only[e,go_sem,hg,g1,g2,lA,hZd])<;>clear e|rw[q00 (by omega)]|refine sd ?_<;>try simp only[go_sem,hg,g1,g2,lA,hZd]|(first|refine cr (c1 ..) ?_)<;>try simp only[go_sem,hg,g1,g2,lA,hZd]|fail)
  exact⟨i+1,by omega,by omega,leN [] (by simp only[go_sem];first|done|omega|rfl) (by simp only[go_sem,e2,hA,List.append_assoc,hZd];first|done|rfl) (by simp[q0f]) (by simp only[go_sem])⟩
 ·simp only[eq_false h,go_sem]
  have:i=l.length:=by omega
  subst this
  simp only[List.take_length,Nat.sub_self,List.replicate_zero,List.append_nil]
  with_reducible repeat' (first|refine br ?_ ?_<;>intro h e<;>(try simp only[e,go_sem])<;>clear e|rw[q00 (by omega)]|refine sd ?_<;>try simp only[go_sem]|fail)
  all_goals first|done|rfl
def qpf:IC:=sR [oP 1 (.box 120 (.t 0)),oP 2 (.alloc 128 [s0,.nils])] (sR [oP 3 (.alloc 128 [s0,.nils])] (sR [fD 4 0 1,lD 5 1 4,fD 6 0 3,nP (.sto 1 (.t 6) (.t 5))] (sR [fD 7 1 1,lD 8 1 7,oP 9 (.call 157 [.t 8]),fD 10 1 3,nP (.sto 1 (.t 10) (.t 9))] (sR [lA 11 2 3,nP (.sto 2 (.t 2) (.t 11))] .ret))))
theorem qws:Dg Tryz.prog 134 Tryz.f134 qpf [(.cell 2 2 true)]:=⟨Tryz.func134,by kernel_rfl,by kernel_rfl⟩
theorem x134 (s:Strm) (h:s.parts.length≤1048576):FnR Tryz.prog G 134 [.agg [.str s.inn,.sl 2 (s.parts.map Part.row)]] (.agg [.str s.inn,.sl 2 (s.parts.map Part.row)]):=by
 refine mF qws Tryz.ntmps134 ?_
 have c1:=x157 s.parts h
 simp only[qpf,go_sem]
 with_reducible repeat' (first|refine br ?_ ?_<;>intro h e<;>(try simp only[e,go_sem])<;>clear e|rw[q00 (by omega)]|refine sd ?_<;>try simp only[go_sem]|(first|refine cr (c1 ..) ?_)<;>try simp only[go_sem]|fail)
theorem c134 (s:Strm) (h:s.parts.length≤1048576):FnP Tryz.prog G 134 0 [] [.agg [.str s.inn,.sl 2 (s.parts.map Part.row)]] (λr o=>r=.agg [.str s.inn,.own 0 s.parts.length]∧o=[.arr 167 2 (s.parts.map Part.row)]):=by
 refine mP qws Tryz.ntmps134 ⟨_,_,rfl,rfl⟩ ?_
 simp only[qpf,go_sem]
 with_reducible repeat' (first|refine br ?_ ?_<;>intro h e<;>(try simp only[e,go_sem])<;>clear e|rw[q00 (by omega)]|refine sd ?_<;>try simp only[go_sem]|fail)
 refine q14 (c157 s.parts h) [] 9 1 (by simp only[go_sem];first|done|simp) (by simp) (by rintro _ _ ⟨rfl,rfl⟩;simp) (by intro i hi;obtain rfl:i=0:=(by omega);simp only[go_sem]) ?_
 rintro _ _ ⟨rfl,rfl⟩
 simp only[go_sem]
 with_reducible repeat' (first|refine br ?_ ?_<;>intro h e<;>(try simp only[e,go_sem])<;>clear e|rw[q00 (by omega)]|refine sd ?_<;>try simp only[go_sem]|fail)
 exact q1h (.agg [.str s.inn,.own 0 s.parts.length]) [.arr 167 2 (s.parts.map Part.row)] [(0,100900)] (by simp only[go_sem]) ⟨rfl,rfl⟩ (by simp only[go_sem]) (by simp[q11,q0f]) (by simp only[go_sem])
def qpn:IC:=sR [oP 1 (.box 122 (.t 0)),oP 2 (.alloc 130 [i0,i0,i0,i0,s0,.nils,s0,.nils])] (sR [oP 3 (.alloc 130 [i0,i0,i0,i0,s0,.nils,s0,.nils])] (sR [fD 4 0 1,lA 5 2 4,oP 6 (.call 80 [.t 5]),fD 7 0 3,nP (.sto 2 (.t 7) (.t 6))] (sR [fD 8 2 1,lA 9 2 8,oP 10 (.call 80 [.t 9]),fD 11 2 3,nP (.sto 2 (.t 11) (.t 10))] (sR [fD 12 4 1,lA 13 2 12,oP 14 (.call 134 [.t 13]),fD 15 4 3,nP (.sto 2 (.t 15) (.t 14))] (sR [fD 16 6 1,lA 17 2 16,oP 18 (.call 134 [.t 17]),fD 19 6 3,nP (.sto 2 (.t 19) (.t 18))] (sR [lA 20 8 3,nP (.sto 8 (.t 2) (.t 20))] .ret))))))
theorem j02:Dg Tryz.prog 101 Tryz.f101 qpn [(.cell 2 8 true)]:=⟨Tryz.func101,by kernel_rfl,by kernel_rfl⟩
theorem x101 (f:Flw) (h:ptB f):FnR Tryz.prog G 101 [.agg (Flw.row f)] (.agg (Flw.row f)):=by
 refine mF j02 Tryz.ntmps101 ?_
 have c1:=c80 f.ins
 have c2:=c80 f.out
 have c3:=x134 f.up h.1
 have c4:=x134 f.down h.2
 simp only[qpn,go_sem]
 with_reducible repeat' (first|refine br ?_ ?_<;>intro h e<;>(try simp only[e,go_sem])<;>clear e|rw[q00 (by omega)]|refine sd ?_<;>try simp only[go_sem]|(first|refine cr (c1 ..) ?_|refine cr (c2 ..) ?_|refine cr (c3 ..) ?_|refine cr (c4 ..) ?_)<;>try simp only[go_sem]|fail)
theorem d101 (f:Flw) (h:ptB f):FnP Tryz.prog G 101 0 [] [.agg (Flw.row f)] (λr o=>r=.agg [.int .i64 f.ins.a,.int .i64 f.ins.p,.int .i64 f.out.a,.int .i64 f.out.p,.str f.up.inn,.own 0 f.up.parts.length,.str f.down.inn,.own 1 f.down.parts.length]∧o=[.arr 167 2 (f.up.parts.map Part.row),.arr 167 2 (f.down.parts.map Part.row)]):=by
 refine mP j02 Tryz.ntmps101 ⟨_,_,rfl,rfl⟩ ?_
 have c1:=c80 f.ins
 have c2:=c80 f.out
 simp only[qpn,go_sem]
 with_reducible repeat' (first|refine br ?_ ?_<;>intro h e<;>(try simp only[e,go_sem])<;>clear e|rw[q00 (by omega)]|refine sd ?_<;>try simp only[go_sem]|(first|refine cr (c1 ..) ?_|refine cr (c2 ..) ?_)<;>try simp only[go_sem]|fail)
 refine q14 (c134 f.up h.1) [] 14 1 (by simp only[go_sem];first|done|simp) (by simp) (by rintro _ _ ⟨rfl,rfl⟩;simp) (by intro i hi;obtain rfl:i=0:=(by omega);simp only[go_sem]) ?_
 rintro _ _ ⟨rfl,rfl⟩
 simp only[go_sem]
 with_reducible repeat' (first|refine br ?_ ?_<;>intro h e<;>(try simp only[e,go_sem])<;>clear e|rw[q00 (by omega)]|refine sd ?_<;>try simp only[go_sem]|fail)
 refine q14 (c134 f.down h.2) [] 18 1 (by simp only[go_sem];first|done|simp) (by simp) (by rintro _ _ ⟨rfl,rfl⟩;simp) (by intro i hi;obtain rfl:i=0:=(by omega);simp only[go_sem]) ?_
 rintro _ _ ⟨rfl,rfl⟩
 simp only[go_sem]
 with_reducible repeat' (first|refine br ?_ ?_<;>intro h e<;>(try simp only[e,go_sem])<;>clear e|rw[q00 (by omega)]|refine sd ?_<;>try simp only[go_sem]|fail)
 exact q1h (.agg [.int .i64 f.ins.a,.int .i64 f.ins.p,.int .i64 f.out.a,.int .i64 f.out.p,.str f.up.inn,.own 0 f.up.parts.length,.str f.down.inn,.own 1 f.down.parts.length]) [.arr 167 2 (f.up.parts.map Part.row),.arr 167 2 (f.down.parts.map Part.row)] [(0,101400),(1,101800)] (by simp only[go_sem]) ⟨rfl,rfl⟩ (by simp only[go_sem]) (by simp[q11,q0f]) (by simp only[go_sem])
def ic54:IC:=sR [oP 2 (.mv (.c .nils))] (sR [mV 5 0,oP 6 (.len (.t 5)),oP 7 (.mkl 130 8 [i0,i0,i0,i0,s0,.nils,s0,.nils] (.t 6)),mV 3 7] (.seq (sR [oP 4 (.mv (.c i0))] (.block 0 (.loop (.seq (sR [mV 8 4,mV 9 0,oP 10 (.len (.t 9)),bN 11 .lss 8 10] (cD 11 .skip (.exit 0))) (.seq (.block 1 (.reg [mV 14 3,mV 15 4,mV 16 0,mV 17 4,oP 18 (.iad 8 (.t 16) (.t 17)),lA 19 8 18,oP 20 (.call 101 [.t 19]),oP 21 (.iad 8 (.t 14) (.t 15)),nP (.sto 8 (.t 21) (.t 20))])) (.reg [mV 12 4,oP 13 (.bin .add (.t 12) (cI 1)),mV 4 13])))))) (sR [mV 22 3,mV 2 22] .ret)))
theorem dg54:Dg Tryz.prog 54 Tryz.f54 ic54 [(.t 2)]:=⟨Tryz.func54,by kernel_rfl,by kernel_rfl⟩
set_option maxHeartbeats 1000000 in
theorem x54 (l:List Flw) (hl:l.length≤1048576) (hb:∀f∈l,ptB f):FnR Tryz.prog G 54 [.sl 8 (l.map Flw.row)] (.sl 8 (l.map Flw.row)):=by
 refine mF dg54 Tryz.ntmps54 ?_
 simp only[ic54,go_sem]
 with_reducible repeat' (first|refine br ?_ ?_<;>intro h e<;>(try simp only[e,go_sem])<;>clear e|rw[q00 (by omega)]|refine sd ?_<;>try simp only[go_sem]|fail)
 obtain⟨Z,hZ⟩:∃Z:List V,Z=[.int .i64 0,.int .i64 0,.int .i64 0,.int .i64 0,.str [],.nils,.str [],.nils]:=⟨_,rfl⟩
 refine q0d (λi:Nat=>⟨q0e [(0,.sl 8 (l.map Flw.row)),(3,.own 3000007 l.length),(4,.int .i64 (i:Int))],q01 [(3000007,.arr 130 8 ((l.take i).map Flw.row++List.replicate (l.length - i) Z))]⟩) (λi=>l.length - i) (λi=>i≤l.length) 0
  (leN [] (by simp only[go_sem];first|done|omega|rfl) (by simp only[go_sem,List.take_zero,List.map_nil,List.nil_append,Nat.sub_zero,hZ];first|done|rfl) (by simp[q0f]) (by simp only[go_sem])) (Nat.zero_le _) ?_
 intro i hi
 by_cases h:(i:Int)<l.length
 ·have hil:i<l.length:=by omega
  have hg:l.getD i default=l[i]:=by simp[List.getD,hil]
  have e1:List.replicate (l.length - i) Z=Z::List.replicate (l.length - (i+1)) Z:=by rw[show l.length - i=l.length - (i+1)+1 by omega,List.replicate_succ]
  have e0:l.take (i+1)=l.take i++[l[i]]:=by rw[List.take_add_one];simp[hil]
  have e2:(l.take (i+1)).map Flw.row=(l.take i).map Flw.row++[Flw.row l[i]]:=by rw[e0,List.map_append];rfl
  have hZd:Z.drop 8=[]:=by rw[hZ];rfl
  obtain⟨A,hA⟩:∃A,(l.take i).map Flw.row=A:=⟨_,rfl⟩
  have hAl:A.length=i:=by rw[←hA];simp;omega
  have g1:=q2p A (List.replicate (l.length - (i+1)) Z)
  have g2:=q2o A (List.replicate (l.length - (i+1)) Z)
  rw[hAl] at g1 g2
  have c1:=x101 l[i] (hb _ (List.getElem_mem hil))
  simp only[Flw.row] at c1
  have lA:(A++Z::List.replicate (l.length - (i+1)) Z).length=l.length:=by simp[hAl];omega
  simp only[hA,e1]
  simp only[eq_true h,go_sem]
  with_reducible repeat' (first|refine br ?_ ?_<;>intro h e<;>(try simp only[e,go_sem,hg,g1,g2,lA,hZd])<;>clear e|rw[q00 (by omega)]|refine sd ?_<;>try simp only[go_sem,hg,g1,g2,lA,hZd]|(first|refine cr (c1 ..) ?_)<;>try simp only[go_sem,hg,g1,g2,lA,hZd]|fail)
  exact⟨i+1,by omega,by omega,leN [] (by simp only[go_sem];first|done|omega|rfl) (by simp only[go_sem,e2,hA,List.append_assoc,hZd];first|done|rfl) (by simp[q0f]) (by simp only[go_sem])⟩
 ·simp only[eq_false h,go_sem]
  have:i=l.length:=by omega
  subst this
  simp only[List.take_length,Nat.sub_self,List.replicate_zero,List.append_nil]
  with_reducible repeat' (first|refine br ?_ ?_<;>intro h e<;>(try simp only[e,go_sem])<;>clear e|rw[q00 (by omega)]|refine sd ?_<;>try simp only[go_sem]|fail)
  all_goals first|done|rfl
theorem qmh (P X Q:List V) (k:Nat) (cs:List V) (hP:P.length=k) (hX:X.length=cs.length):q5k (P++(X++Q)) k cs=P++(cs++Q):=by
 subst hP
 unfold q5k
 rw[List.take_left',List.append_assoc]
 ·rw[List.drop_append,List.drop_eq_nil_of_le (by omega),show P.length+cs.length - P.length=X.length by omega,List.nil_append,List.drop_left']
  rfl
 ·rfl
theorem qm9 (n k:Nat) (Z:List V) (h:k<n):(List.replicate (n - k) Z).flatten=Z++(List.replicate (n - (k+1)) Z).flatten:=by
 rw[show n - k=n - (k+1)+1 by omega,List.replicate_succ,List.flatten_cons]
def in54:IC:=sR [oP 2 (.mv (.c .nils))] (sR [mV 5 0,oP 6 (.len (.t 5)),oP 7 (.mkm 130 8 [i0,i0,i0,i0,s0,.nils,s0,.nils] (.t 6)),mV 3 7] (.seq (sR [oP 4 (.mv (.c i0))] (.block 0 (.loop (.seq (sR [mV 8 4,mV 9 0,oP 10 (.len (.t 9)),bN 11 .lss 8 10] (.cond (.t 11) .skip (.exit 0))) (.seq (.block 1 (.reg [mV 14 3,mV 15 4,mV 16 0,mV 17 4,oP 18 (.iad 8 (.t 16) (.t 17)),lA 19 8 18,oP 20 (.call 101 [.t 19]),oP 21 (.iad 8 (.t 14) (.t 15)),nP (.sto 8 (.t 21) (.t 20))])) (.reg [mV 12 4,oP 13 (.bin .add (.t 12) (.c (.int .i64 1))),mV 4 13])))))) (sR [mV 22 3,mV 2 22] .ret)))
theorem dn54:DgN Tryz.prog 54 Tryz.f54 in54 [(.t 2)]:=⟨Tryz.func54,by kernel_rfl,by kernel_rfl⟩
set_option maxHeartbeats 2000000 in
theorem d54 (l:List Flw) (hl:l.length≤1048576) (hb:∀f∈l,ptB f):FnP Tryz.prog G 54 0 [] [.sl 8 (l.map Flw.row)] (λr o=>r=.view 0 l.length l.length∧o=.var 130 (frow 1 l)::q32 l):=by
 refine mPN dn54 Tryz.ntmps54 ⟨_,_,rfl,rfl⟩ ?_
 simp only[in54,qh1,qph,go_sem]
 with_reducible repeat' (first|refine br ?_ ?_<;>intro h e<;>(try simp only[e,go_sem,qh1,qph])<;>clear e|rw[q00 (by omega)]|refine sd ?_<;>try simp only[go_sem,qh1,qph]|fail)
 obtain⟨Z,hZ⟩:∃Z:List V,Z=[.int .i64 0,.int .i64 0,.int .i64 0,.int .i64 0,.str [],.nils,.str [],.nils]:=⟨_,rfl⟩
 have hZf:∀v∈Z,qcs v=true:=by rw[hZ];simp[qcs]
 have hZl:Z.length=8:=by rw[hZ];rfl
 refine q0d (λi:Nat=>⟨q0e [(0,.sl 8 (l.map Flw.row)),(3,.view 3000007 l.length l.length),(4,.int .i64 (i:Int))],q01 ([(3000007,.var 130 (frow 50000000 (l.take i)++(List.replicate (l.length - i) Z).flatten))]++q2x 50000000 (l.take i))⟩) (λi=>l.length - i) (λi=>i≤l.length) 0
  (leN [] (by simp only[go_sem];first|done|omega|rfl) (by simp only[go_sem,List.take_zero,frow,q2x,List.nil_append,List.append_nil,Nat.sub_zero,hZ];first|done|rfl|(exact qct rfl λj v v' h1 h2=>by rw[h1] at h2;cases h2;exact qaq (by rw[←hZ] at h1;obtain⟨x,hx,hv⟩:=List.mem_flatten.1 (List.mem_of_getElem? h1);rw[(List.mem_replicate.1 hx).2] at hv;exact hZf _ hv))) (by simp[q0f,q2x]) (by simp only[go_sem])) (Nat.zero_le _) ?_
 intro i hi
 simp only[List.cons_append,List.nil_append]
 by_cases h:(i:Int)<l.length
 ·have hil:i<l.length:=by omega
  have hg:l.getD i default=l[i]:=by simp[List.getD,hil]
  have e0:l.take (i+1)=l.take i++[l[i]]:=by rw[List.take_add_one];simp[hil]
  have e1:=qm9 l.length i Z hil
  obtain⟨R,hR⟩:∃R,(List.replicate (l.length - (i+1)) Z).flatten=R:=⟨_,rfl⟩
  have hRl:R.length=8*(l.length - (i+1)):=by rw[←hR];simp[hZl];omega
  have hRf:∀v∈R,qcs v=true:=λv hv=>by
   rw[←hR] at hv
   obtain⟨x,hx,hv⟩:=List.mem_flatten.1 hv
   rw[(List.mem_replicate.1 hx).2] at hv
   exact hZf _ hv
  obtain⟨gs,hgs⟩:∃gs,l.take i=gs:=⟨_,rfl⟩
  have hgl:gs.length=i:=by rw[←hgs];simp;omega
  have hPl:(frow 50000000 gs).length=i*8:=by rw[q0p,hgl];omega
  have lR:(frow 50000000 gs++(Z++R)).length=l.length*8:=by rw[zA,zA,hPl,hZl,hRl];omega
  have s8:∀cs,cs.length=8→cs.all V.one=true→q6t 8 3000007 (i*8) cs (.var 130 (frow 50000000 gs++(Z++R)))=some ([(3000007,.var 130 (frow 50000000 gs++(cs++R)))],[3000007]):=λcs h1 h2=>by
   rw[q3w _ _ _ _ _ _ h2 (by rw[lR];omega),qmh _ _ _ _ _ hPl (by omega)]
  rw[e1,hR]
  simp only[hgs,eq_true h,go_sem]
  with_reducible repeat' (first|refine br ?_ ?_<;>intro h e<;>(try simp only[e,go_sem,hg,q08,q02,List.cons_append,List.nil_append,Nat.reduceLT])<;>clear e|rw[q00 (by omega)]|refine sd ?_<;>try simp only[go_sem,hg,q08,q02,List.cons_append,List.nil_append,Nat.reduceLT]|fail)
  refine q14 (d101 l[i] (hb _ (List.getElem_mem hil))) [] 20 2 (by simp only[go_sem,Flw.row];first|done|simp[Flw.row]) (by simp) (by rintro _ _ ⟨rfl,rfl⟩;simp) (by intro i hi;rcases(show i=0∨i=1 by omega) with rfl|rfl<;>simp only[go_sem,q08,q02,List.cons_append,List.nil_append,Nat.reduceLT]) ?_
  rintro _ _ ⟨rfl,rfl⟩
  simp only[q8i,lR,s8,go_sem,q08,q02,List.cons_append,List.nil_append,Nat.reduceLT]
  with_reducible repeat' (first|refine br ?_ ?_<;>intro h e<;>(try simp only[e,go_sem,q8i,lR,s8,q08,q02,List.cons_append,List.nil_append,Nat.reduceLT])<;>clear e|rw[q00 (by omega)]|refine sd ?_<;>try simp only[go_sem,q8i,lR,s8,q08,q02,List.cons_append,List.nil_append,Nat.reduceLT]|fail)
  refine⟨i+1,by omega,by omega, ?_⟩
  simp only[e0,hgs,hR]
  refine qnb (L2:=[(3000007,.var 130 (frow 50000000 (gs++[l[i]])++R))]) 50000000 102000 gs l[i] (λF g h' hg hh=>?_) (λF g h' hg hh hg2 hx hh2 p hp=>?_) ?_ ⟨by simp only[go_sem,q08,q02,List.cons_append,List.nil_append,Nat.reduceLT],by simp only[go_sem,q08,q02,List.cons_append,List.nil_append,Nat.reduceLT]⟩ (by decide) ⟨by simp only[go_sem],by simp only[go_sem]⟩ (by simp only[List.all_cons,List.all_nil,Nat.reduceLT,decide_true,Bool.and_self])
  ·simp only[go_sem,hg,hh,Nat.reduceLT]
   first|done|omega
  ·simp only[List.mem_singleton] at hp
   subst hp
   simp only[go_sem]
   exact qct (by simp only[zA,q0p,zC,zN];omega) λj v v' h1 h2=>qdt hg2 hx hh2 hRf h1 h2
  ·repeat' first|exact q0s _ _|refine q0n (.inl (by decide)) ?_
 ·simp only[eq_false h,go_sem]
  have:i=l.length:=by omega
  subst this
  simp only[List.take_length,Nat.sub_self,List.replicate_zero,List.flatten_nil,List.append_nil]
  with_reducible repeat' (first|refine br ?_ ?_<;>intro h e<;>(try simp only[e,go_sem])<;>clear e|rw[q00 (by omega)]|refine sd ?_<;>try simp only[go_sem]|fail)
  refine q8o 1 50000000 (.view 0 l.length l.length) [.var 130 (frow 1 l)] [(0,3000007)] rfl ?_ ⟨rfl,rfl⟩ (λc hc F f h' hf hh hj=>?_) (q0n (.inl (by decide)) (q0s _ _)) (by simp[q0f]) (λc hc=>?_)
  ·simp only[go_sem]
   intro F f h' hf hh
   simp only[go_sem,hf,hh,Nat.reduceLT]
  ·obtain rfl:c=0:=by omega
   simp only[go_sem]
   exact qct (by rw[q0p,q0p]) λj v v' h1 h2=>q2r (λj hj'=>hj j hj') h1 h2
  ·obtain rfl:c=0:=by omega
   exact .inl (by decide)
end Go.Proofs.YtpppoklkijmeoaaGreatDoor.W
namespace Go.Proofs.YtpppoklkijmeoaaGreatDoor.W
open Go Go.RowKit Go.Proofs Go.Proofs.YtpppoklkijmeoaaGreatDoor.VL Go.Proofs.YtpppoklkijmeoaaGreatDoor.M
def ic65:IC:=sR [oP 4 (.box 54 (.t 1))] (sR [oP 6 (.mv (.c i0))] (.block 0 (.loop (.seq (sR [mV 7 2,mV 8 7,gT 9 8 (.mv (.t 6)),gT 10 8 (.bin .lss (.t 9) (cI 4)),pF 11 8 10] (cD 11 .skip (.exit 0))) (.seq (.block 1 (.reg [mV 15 0,lA 16 7 4,oP 17 (.call 82 [.t 15,.t 16]),mV 14 17,eX 18 14 0,eX 19 14 1,nP (.sto 7 (.t 4) (.t 18)),mV 2 19])) (.reg [mV 12 6,oP 13 (.bin .add (.t 12) (cI 1)),mV 6 13]))))))
theorem dg65:Dg Tryz.prog 65 Tryz.f65 ic65 []:=⟨Tryz.func65,by kernel_rfl,by kernel_rfl⟩
theorem c65 {X:List (E×E)} (w:M.World) (p:Pk) (ok:Bool) (hw:WX X w) (hp:ok=true→NetX X w.convs p):FnP Tryz.prog G 65 1 [.var 38 [.own 2 w.convs.length,.sl 3 (w.door.map.map Pair.row),.own 1 w.door.flows.length,.own 3 w.nets.length],.arr 130 8 (w.door.flows.map Flw.row),.arr 91 10 (w.convs.map Conv.row),.arr 54 7 (w.nets.map Pk.row)] [.pv 0 0,.agg [.int .i64 p.kind,.int .i64 p.frm.a,.int .i64 p.frm.p,.int .i64 p.to.a,.int .i64 p.to.p,.int .i64 p.at_,.str p.text],.bool ok] (λr o=>r=.tup []∧∃v,v=through 4 w (bif ok then some p else none)∧o=[.var 38 [.own 2 v.convs.length,.sl 3 (v.door.map.map Pair.row),.own 1 v.door.flows.length,.own 3 v.nets.length],.arr 130 8 (v.door.flows.map Flw.row),.arr 91 10 (v.convs.map Conv.row),.arr 54 7 (v.nets.map Pk.row)]):=by
 refine mP dg65 Tryz.ntmps65 ⟨_,_,rfl,_,rfl,rfl⟩ ?_
 have fin:∀l mm (v:M.World),v=through 4 w (bif ok then some p else none)→q01 mm 0=.var 38 [.own 2 v.convs.length,.sl 3 (v.door.map.map Pair.row),.own 1 v.door.flows.length,.own 3 v.nets.length]→q01 mm 1=.arr 130 8 (v.door.flows.map Flw.row)→q01 mm 2=.arr 91 10 (v.convs.map Conv.row)→q01 mm 3=.arr 54 7 (v.nets.map Pk.row) →
  q6f [] 1 (λr o=>r=.tup []∧∃v,v=through 4 w (bif ok then some p else none)∧o=[.var 38 [.own 2 v.convs.length,.sl 3 (v.door.map.map Pair.row),.own 1 v.door.flows.length,.own 3 v.nets.length],.arr 130 8 (v.door.flows.map Flw.row),.arr 91 10 (v.convs.map Conv.row),.arr 54 7 (v.nets.map Pk.row)]) .normal ⟨q0e l,q01 mm⟩:=λl mm v h0 h1 h2 h3 h4=>by
  show q6f _ _ _ .ret _
  refine q1h (.tup []) [.var 38 [.own 2 v.convs.length,.sl 3 (v.door.map.map Pair.row),.own 1 v.door.flows.length,.own 3 v.nets.length],.arr 130 8 (v.door.flows.map Flw.row),.arr 91 10 (v.convs.map Conv.row),.arr 54 7 (v.nets.map Pk.row)] [] (by simp only[go_sem,qe6]) ⟨rfl,v,h0,rfl⟩ ?_ (by simp[q11,q0f]) (by simp only[go_sem])
  simp only[go_sem,h1,h2,h3,h4]
 simp only[ic65,go_sem]
 refine q0d (λa:Nat×M.World×Pk×Bool=>⟨q0e [(0,.pv 0 0),(2,.bool a.2.2.2),(4,.pv 3000004 0),(6,.int .i64 (a.1:Int))],q01 [(0,.var 38 [.own 2 a.2.1.convs.length,.sl 3 (a.2.1.door.map.map Pair.row),.own 1 a.2.1.door.flows.length,.own 3 a.2.1.nets.length]),(1,.arr 130 8 (a.2.1.door.flows.map Flw.row)),(2,.arr 91 10 (a.2.1.convs.map Conv.row)),(3,.arr 54 7 (a.2.1.nets.map Pk.row)),(3000004,.var 54 (Pk.row a.2.2.1))]⟩)
  (λa=>4 - a.1) (λa=>a.1≤4∧WX X a.2.1∧(a.2.2.2=true→NetX X a.2.1.convs a.2.2.1)∧through 4 w (bif ok then some p else none)=through (4 - a.1) a.2.1 (bif a.2.2.2 then some a.2.2.1 else none)) (0,w,p,ok) (leQ []) ⟨Nat.zero_le _,hw,hp,rfl⟩ ?_
 intro⟨n,v,q,b⟩ ⟨hn,hv,hq,he⟩
 simp only at hn hv hq he
 simp only[go_sem]
 cases b
 ·simp only[go_sem]
  rw[cond_false,q79] at he
  exact fin _ _ v he.symm (by simp only[go_sem]) (by simp only[go_sem]) (by simp only[go_sem]) (by simp only[go_sem])
 by_cases h:(n:Int)<4
 ·have hq:=hq rfl
  obtain⟨k1,k2⟩:=q6w hv hq
  have e4:4 - n=(4 - (n+1))+1:=by omega
  rw[cond_true,e4] at he
  simp only[through] at he
  simp only[eq_true h,go_sem]
  refine q1k (x82 v q hv hq.pk) [0,1,2,3] [] true 17 4 (by simp only[go_sem];first|done|simp) (by simp only[go_sem];first|done|simp) (by simp) (by simp) (by simp) ?_ ?_ ?_
  ·rintro res out ⟨q,rfl,hq,rfl⟩
   exact⟨by simp,by simp,.inl rfl,λi hi=>by obtain rfl:i=0:=(by omega);simp[chH,q0h]⟩
  ·intro i hi
   rcases(show i=0∨i=1∨i=2∨i=3 by omega) with rfl|rfl|rfl|rfl<;>simp only[go_sem]
  rintro res out ⟨q',rfl,hq',rfl⟩
  generalize q2g v q=x at *
  obtain⟨v',o⟩:=x
  simp only at k1 k2 he hq'
  have ho:(bif o.isSome then some q' else none)=o:=by
   cases o with
   | none=>rfl
   | some y=>rw[hq' y rfl];rfl
  simp only[go_sem]
  with_reducible repeat' (first|rw[q00 (by omega)];try simp only[go_sem]|refine br ?_ ?_<;>intro h e<;>(try simp only[e,go_sem])<;>clear e|refine sd ?_<;>try simp only[go_sem]|fail)
  exact⟨(n+1,v',q',o.isSome),by simp only;omega,⟨by simp only;omega,k1,λhb=>k2 q' (by rw[←ho];simp only at hb;rw[hb];rfl),by simp only;rw[ho];exact he⟩,(leQ [(1,101701),(2,101702),(3,101703)])⟩
 ·simp only[eq_false h,go_sem]
  have e0:4 - n=0:=by omega
  rw[e0] at he
  exact fin _ _ v he.symm (by simp only[go_sem]) (by simp only[go_sem]) (by simp only[go_sem]) (by simp only[go_sem])
theorem qeh {n k:Nat} (h:k<n):(List.range n).drop k=k::(List.range n).drop (k+1):=by
 have:=List.drop_eq_getElem_cons (l:=List.range n) (i:=k) (by simpa using h)
 rw[this];simp
theorem q97 {w:M.World} {i:Nat} {c c1:Conv} (h:w.convs[i]?=some c) {o1 o2:Option Pk} {w1:M.World} (h1:say c true 0 c.upAck 24=o1) (hw:w1=through 4 w o1) (hc:w1.convs[i]?=some c1) (h2:say c1 false (portOf w1.door.map c1.ins) c1.downAck 24=o2):sayRound w i=through 4 w1 o2:=by
 unfold sayRound
 rw[h]
 simp only
 rw[h1,←hw,hc]
 simp only
 rw[h2]
def ic29:IC:=sR [mV 6 0,oP 7 (.nilc (.t 6)),fD 8 3 7,lD 9 1 8,mV 2 9] (sR [mV 10 0,oP 11 (.nilc (.t 10)),fD 12 3 11,nP (.sto 1 (.t 12) (.c .nils))] (.seq (sR [mV 13 2,oP 14 (.len (.t 13)),oP 15 (.mv (.c i0))] (.block 0 (.loop (sR [bN 16 .lss 15 14] (.seq (cD 16 .skip (.exit 0)) (.seq (.block 1 (sR [oP 17 (.iad 7 (.t 13) (.t 15)),lA 18 7 17,oP 4 (.alloc 54 [i0,i0,i0,i0,i0,i0,s0]),nP (.sto 7 (.t 4) (.t 18))] (.reg [mV 19 0,lA 20 7 4,oP 21 (.call 65 [.t 19,.t 20,cT])]))) (.reg [oP 22 (.bin .add (.t 15) (cI 1)),mV 15 22]))))))) (sR [mV 23 0,oP 24 (.nilc (.t 23)),fD 25 0 24,lD 26 1 25,oP 27 (.len (.t 26)),oP 28 (.mv (.c i0))] (.block 2 (.loop (sR [bN 29 .lss 28 27] (.seq (cD 29 .skip (.exit 2)) (.seq (.block 3 (sR [mV 30 28,mV 5 30] (.seq (.drw [0,0,2,6,14,0,62,126,0,256,768,1792,0,7936,16128,32512,65534,131070,131070,524287] [(0,mV 31 0),(1,mV 32 0),(2,oP 33 (.nilc (.t 32))),(3,fD 34 0 33),(4,lD 35 1 34),(5,mV 36 5),(6,oP 37 (.iad 10 (.t 35) (.t 36))),(7,lA 38 10 37),(8,mV 39 0),(9,oP 40 (.nilc (.t 39))),(10,fD 41 0 40),(11,lD 42 1 41),(12,mV 43 5),(13,oP 44 (.iad 10 (.t 42) (.t 43))),(14,fD 45 6 44),(15,lD 46 1 45),(16,oP 47 (.call 66 [.t 38,cT,.c i0,.t 46,cI 24])),(17,eX 48 47 0),(18,eX 49 47 1),(19,oP 50 (.call 65 [.t 31,.t 48,.t 49]))]) (.drw [0,0,2,6,14,0,62,126,0,0,768,0,2048,6144,14336,0,63488,129024,260096,524286,1048574,1048574,4194303] [(0,mV 51 0),(1,mV 52 0),(2,oP 53 (.nilc (.t 52))),(3,fD 54 0 53),(4,lD 55 1 54),(5,mV 56 5),(6,oP 57 (.iad 10 (.t 55) (.t 56))),(7,lA 58 10 57),(8,mV 59 0),(9,mV 60 5),(10,oP 61 (.call 67 [.t 59,.t 60])),(11,mV 62 0),(12,oP 63 (.nilc (.t 62))),(13,fD 64 0 63),(14,lD 65 1 64),(15,mV 66 5),(16,oP 67 (.iad 10 (.t 65) (.t 66))),(17,fD 68 7 67),(18,lD 69 1 68),(19,oP 70 (.call 66 [.t 58,cF,.t 61,.t 69,cI 24])),(20,eX 71 70 0),(21,eX 72 70 1),(22,oP 73 (.call 65 [.t 51,.t 71,.t 72]))])))) (.reg [oP 74 (.bin .add (.t 28) (cI 1)),mV 28 74])))))))))
theorem dg29:Dg Tryz.prog 29 Tryz.f29 ic29 []:=⟨Tryz.func29,by kernel_rfl,by kernel_rfl⟩
set_option maxHeartbeats 1000000 in
theorem c29 {X:List (E×E)} (w:M.World) (hw:WX X w):FnP Tryz.prog G 29 1 [.var 38 [.own 2 w.convs.length,.sl 3 (w.door.map.map Pair.row),.own 1 w.door.flows.length,.own 3 w.nets.length],.arr 130 8 (w.door.flows.map Flw.row),.arr 91 10 (w.convs.map Conv.row),.arr 54 7 (w.nets.map Pk.row)] [.pv 0 0] (λr o=>r=.tup []∧∃v,v=M.round w∧o=[.var 38 [.own 2 v.convs.length,.sl 3 (v.door.map.map Pair.row),.own 1 v.door.flows.length,.own 3 v.nets.length],.arr 130 8 (v.door.flows.map Flw.row),.arr 91 10 (v.convs.map Conv.row),.arr 54 7 (v.nets.map Pk.row)]):=by
 refine mP dg29 Tryz.ntmps29 ⟨_,_,rfl,_,rfl,rfl⟩ ?_
 have hnl:=hw.nl
 have hcl:=hw.cl
 have opt_i:∀o:Option Pk,(bif o.isSome then some (o.getD .zero) else none)=o:=λo=>by cases o<;>rfl
 simp only[ic29,go_sem]
 with_reducible repeat' (first|refine br ?_ ?_<;>intro h e<;>(try simp only[e,go_sem])<;>clear e|rw[q00 (by omega)]|refine sd ?_<;>try simp only[go_sem]|fail)
 refine q0d (λa:Nat×M.World=>⟨q0e [(0,.pv 0 0),(13,.own 3 w.nets.length),(14,.int .i64 w.nets.length),(15,.int .i64 (a.1:Int))],q01 [(0,.var 38 [.own 2 a.2.convs.length,.sl 3 (a.2.door.map.map Pair.row),.own 1 a.2.door.flows.length,.own 200003 a.2.nets.length]),(1,.arr 130 8 (a.2.door.flows.map Flw.row)),(2,.arr 91 10 (a.2.convs.map Conv.row)),(200003,.arr 54 7 (a.2.nets.map Pk.row)),(3,.arr 54 7 (w.nets.map Pk.row))]⟩)
  (λa=>w.nets.length - a.1) (λa=>a.1≤w.nets.length∧WX X a.2∧Ext w a.2∧w.nets.foldl (λw p=>through 4 w (some p)) { w with nets:=[] }=(w.nets.drop a.1).foldl (λw p=>through 4 w (some p)) a.2) (0,{ w with nets:=[] })
  (St.le_trans (qyh (row:=[.own 2 w.convs.length,.sl 3 (w.door.map.map Pair.row),.own 1 w.door.flows.length,.nils]) 0 200003 54 7 38 3 (by simp only[go_sem]) (by decide) (by simp only[go_sem]) rfl) (leN [] (by simp only[go_sem]) (by simp only[go_sem,List.set_cons_succ,List.set_cons_zero]) (by simp[q0f]) (by simp only[go_sem]))) ⟨Nat.zero_le _,hw.empty,.same rfl rfl,by simp⟩ ?_
 intro⟨k,v⟩ ⟨hk,hv,hx,he⟩
 simp only at hk hv hx he
 simp only[go_sem]
 by_cases h:(k:Int)<w.nets.length
 ·have hil:k<w.nets.length:=by omega
  have hg:w.nets.getD k default=w.nets[k]:=by simp[List.getD,hil]
  rw[List.drop_eq_getElem_cons hil,List.foldl_cons] at he
  have hnp:=(hw.net _ (List.getElem_mem hil)).ext hx
  generalize w.nets[k]=p at *
  simp only[eq_true h,go_sem]
  with_reducible repeat' (first|rw[q00 (by omega)];try simp only[go_sem,q03 hil,hg]|refine br ?_ ?_<;>intro h e<;>(try simp only[e,go_sem,q03 hil,hg])<;>clear e|refine sd ?_<;>try simp only[go_sem,q03 hil,hg]|fail)
  refine q1k (c65 v p true hv (λ_=>hnp)) [0,1,2,200003] [] true 21 4 (by simp only[go_sem];first|done|simp) (by simp only[go_sem];first|done|simp) (by simp) (by simp) (by simp) ?_ ?_ ?_
  ·rintro _ _ ⟨rfl,v',hv',rfl⟩
   exact⟨by simp,by simp,.inl rfl,λi hi=>by obtain rfl:i=0:=(by omega);simp[chH,q0h]⟩
  ·intro i hi
   rcases(show i=0∨i=1∨i=2∨i=3 by omega) with rfl|rfl|rfl|rfl<;>simp only[go_sem]
  rintro _ _ ⟨rfl,v',hv',rfl⟩
  simp only[go_sem]
  with_reducible repeat' (first|rw[q00 (by omega)];try simp only[go_sem]|refine br ?_ ?_<;>intro h e<;>(try simp only[e,go_sem])<;>clear e|refine sd ?_<;>try simp only[go_sem]|fail)
  rw[cond_true] at hv'
  exact⟨(k+1,v'),by simp only;omega,⟨by simp only;omega,by rw[hv'];exact hv.through 4 (λq hq=>by cases hq;exact hnp),by rw[hv'];exact hx.trans (q1v 4 _ _),by rw[hv'];exact he⟩,(leQ [(1,102101),(2,102102),(200003,102103)])⟩
 simp only[eq_false h,go_sem]
 obtain rfl:k=w.nets.length:=by omega
 rw[List.drop_length,List.foldl_nil] at he
 have hrd:M.round w=(List.range v.convs.length).foldl sayRound v:=by rw[←he];rfl
 clear he hx h
 with_reducible repeat' (first|refine br ?_ ?_<;>intro h e<;>(try simp only[e,go_sem])<;>clear e|rw[q00 (by omega)]|refine sd ?_<;>try simp only[go_sem]|fail)
 have hvl:=hv.cl
 generalize hn:v.convs.length=n at *
 refine q0d (λa:Nat×M.World=>⟨q0e [(0,.pv 0 0),(27,.int .i64 n),(28,.int .i64 (a.1:Int))],q01 [(0,.var 38 [.own 2 a.2.convs.length,.sl 3 (a.2.door.map.map Pair.row),.own 1 a.2.door.flows.length,.own 200003 a.2.nets.length]),(1,.arr 130 8 (a.2.door.flows.map Flw.row)),(2,.arr 91 10 (a.2.convs.map Conv.row)),(200003,.arr 54 7 (a.2.nets.map Pk.row))]⟩)
  (λa=>n - a.1) (λa=>a.1≤n∧WX X a.2∧a.2.convs.length=n∧M.round w=((List.range n).drop a.1).foldl sayRound a.2) (0,v) (leQ []) ⟨Nat.zero_le _,hv,hn,by simpa using hrd⟩ ?_
 clear hrd hv hn v
 intro⟨k,v⟩ ⟨hk,hv,hn,he⟩
 simp only at hk hv hn he
 simp only[go_sem]
 by_cases h:(k:Int)<n
 ·have hil:k<v.convs.length:=by omega
  have hg:v.convs.getD k default=v.convs[k]:=by simp[List.getD,hil]
  have hg2:=zE hil
  have hcb:=q26 (hv.cv _ (List.getElem_mem hil))
  have hcm:=List.getElem_mem hil
  rw[qeh (by omega),List.foldl_cons] at he
  generalize v.convs[k]=c at *
  have fs:=c66 c true 0 c.upAck 24 (by have:=hcb.up;omega) (by have:=hcb.down;omega)
  have hsn:∀p,say c true 0 c.upAck 24=some p→NetX X v.convs p:=λp hp=>(q65 hcm (hv.cv c hcm) hp).x
  simp only[eq_true h,go_sem]
  with_reducible repeat' (first|rw[q00 (by omega)];try simp only[go_sem,q03 hil,hg]|refine br ?_ ?_<;>intro h e<;>(try simp only[e,go_sem,q03 hil,hg])<;>clear e|refine sd ?_<;>try simp only[go_sem,q03 hil,hg]|(first|refine cr (fs ..) ?_)<;>try simp only[go_sem,q03 hil,hg]|fail)
  generalize ho:say c true 0 c.upAck 24=o at *
  refine q1k (c65 v (o.getD .zero) o.isSome hv (λhb=>hsn _ (by cases o with|none=>cases hb|some y=>rfl))) [0,1,2,200003] [] true 50 4 (by simp only[go_sem];first|done|simp) (by simp only[go_sem];first|done|simp) (by simp) (by simp) (by simp) ?_ ?_ ?_
  ·rintro _ _ ⟨rfl,v',hv',rfl⟩
   exact⟨by simp,by simp,.inl rfl,λi hi=>by obtain rfl:i=0:=(by omega);simp[chH,q0h]⟩
  ·intro i hi
   rcases(show i=0∨i=1∨i=2∨i=3 by omega) with rfl|rfl|rfl|rfl<;>simp only[go_sem]
  rintro _ _ ⟨rfl,v1,hv1,rfl⟩
  rw[opt_i] at hv1
  have hw1:WX X v1:=by rw[hv1];exact hv.through 4 hsn
  have hx1:Ext v v1:=by rw[hv1];exact q1v 4 _ _
  have hil1:k<v1.convs.length:=by rw[hx1.len];exact hil
  have hg1:v1.convs.getD k default=v1.convs[k]:=by simp[List.getD,hil1]
  have hg3:=zE hil1
  have hcb1:=q26 (hw1.cv _ (List.getElem_mem hil1))
  have hcm1:=List.getElem_mem hil1
  have hml1:=(q0b (q0c.1 hw1.door).1).2
  have fp:=c67 v1 k hil1 (by omega)
  rw[hg1] at fp
  generalize v1.convs[k]=c1 at *
  have fs1:=c66 c1 false (portOf v1.door.map c1.ins) c1.downAck 24 (by have:=hcb1.up;omega) (by have:=hcb1.down;omega)
  have hsn1:∀p,say c1 false (portOf v1.door.map c1.ins) c1.downAck 24=some p→NetX X v1.convs p:=λp hp=>(q65 hcm1 (hw1.cv c1 hcm1) hp).x
  simp only[go_sem]
  with_reducible repeat' (first|rw[q00 (by omega)];try simp only[go_sem,q03 hil1,hg1]|refine br ?_ ?_<;>intro h e<;>(try simp only[e,go_sem,q03 hil1,hg1])<;>clear e|refine sd ?_<;>try simp only[go_sem,q03 hil1,hg1]|fail)
  refine qnh fp [0,105001,105002,105003] 61 4 (by simp only[go_sem];first|done|simp) (by simp only[go_sem];first|done|simp) (by simp) (by simp) ?_ ?_ ?_ ?_
  ·rintro _ _ ⟨rfl,rfl⟩
   exact⟨by simp,by simp,λi hi=>by rcases(show i=0∨i=1∨i=2∨i=3 by omega) with rfl|rfl|rfl|rfl<;>simp[chH,q0h]⟩
  ·intro i hi
   rcases(show i=0∨i=1∨i=2∨i=3 by omega) with rfl|rfl|rfl|rfl<;>simp only[go_sem]
  ·rintro _ _ ⟨rfl,rfl⟩ x hx
   simp only[go_sem,List.drop_succ_cons,List.drop_nil,List.append_nil,List.mem_cons,List.not_mem_nil,or_false] at hx
   rcases hx with rfl|rfl|rfl|rfl<;>simp only[go_sem]
  rintro _ _ ⟨rfl,rfl⟩
  simp only[go_sem]
  with_reducible repeat' (first|rw[q00 (by omega)];try simp only[go_sem,q03 hil1,hg1]|refine br ?_ ?_<;>intro h e<;>(try simp only[e,go_sem,q03 hil1,hg1])<;>clear e|refine sd ?_<;>try simp only[go_sem,q03 hil1,hg1]|(first|refine cr (fs1 ..) ?_)<;>try simp only[go_sem,q03 hil1,hg1]|fail)
  generalize ho1:say c1 false (portOf v1.door.map c1.ins) c1.downAck 24=o1 at *
  have hse:=q97 hg2 ho hv1 hg3 ho1
  refine q1k (c65 v1 (o1.getD .zero) o1.isSome hw1 (λhb=>hsn1 _ (by cases o1 with|none=>cases hb|some y=>rfl))) [0,105001,105002,105003] [] true 73 4 (by simp only[go_sem];first|done|simp) (by simp only[go_sem];first|done|simp) (by simp) (by simp) (by simp) ?_ ?_ ?_
  ·rintro _ _ ⟨rfl,v',hv',rfl⟩
   exact⟨by simp,by simp,.inl rfl,λi hi=>by obtain rfl:i=0:=(by omega);simp[chH,q0h]⟩
  ·intro i hi
   rcases(show i=0∨i=1∨i=2∨i=3 by omega) with rfl|rfl|rfl|rfl<;>simp only[go_sem]
  rintro _ _ ⟨rfl,v2,hv2,rfl⟩
  rw[opt_i] at hv2
  simp only[go_sem]
  with_reducible repeat' (first|rw[q00 (by omega)];try simp only[go_sem]|refine br ?_ ?_<;>intro h e<;>(try simp only[e,go_sem])<;>clear e|refine sd ?_<;>try simp only[go_sem]|fail)
  rw[hse,←hv2] at he
  exact⟨(k+1,v2),by simp only;omega,⟨by simp only;omega,by rw[hv2];exact hw1.through 4 hsn1,by rw[hv2];simp only;rw[(q1v 4 v1 o1).len,hx1.len,hn],he⟩,(leQ [(1,107301),(2,107302),(200003,107303)])⟩
 ·simp only[eq_false h,go_sem]
  obtain rfl:k=n:=by omega
  rw[show(List.range k).drop k=[] by simp,List.foldl_nil] at he
  show q6f _ _ _ .ret _
  refine q1h (.tup []) [.var 38 [.own 2 v.convs.length,.sl 3 (v.door.map.map Pair.row),.own 1 v.door.flows.length,.own 3 v.nets.length],.arr 130 8 (v.door.flows.map Flw.row),.arr 91 10 (v.convs.map Conv.row),.arr 54 7 (v.nets.map Pk.row)] [(3,200003)] (by simp only[go_sem,qe6]) ⟨rfl,v,he.symm,rfl⟩ ?_ (by simp[q11,q0f]) (by simp only[go_sem])
  simp only[go_sem]
def qwu:IC:=sR [oP 6 (.mv (.c s0)),oP 7 (.mv cF)] (sR [mV 9 0,oP 10 (.lens (.t 9)),mV 8 10] (.seq (sR [mV 11 1,mV 12 8,bN 13 .gtr 11 12,mV 14 13,gF 15 14 (.mv (.t 1)),gF 16 14 (.mv (.t 2)),gF 17 14 (.lens (.t 16)),gF 18 14 (.bin .add (.t 15) (.t 17)),gF 19 14 (.bin .gtr (.t 18) (cI 40)),pT 20 14 19] (cD 20 (sR [mV 21 0,mV 6 21,oP 7 (.mv cF)] .ret) .skip)) (.seq (sR [mV 22 1,mV 23 2,oP 24 (.lens (.t 23)),bN 25 .add 22 24,mV 26 8,bN 27 .leq 25 26] (cD 27 (sR [mV 28 0,mV 6 28,oP 7 (.mv cT)] .ret) .skip)) (sR [mV 29 0,mV 30 2,mV 31 8,mV 32 1,bN 33 .sub 31 32,oP 34 (.sls (.t 30) (some (.t 33)) none),bN 35 .add 29 34,mV 6 35,oP 7 (.mv cT)] .ret))))
theorem dg182:Dg Tryz.prog 182 Tryz.f182 qwu [(.t 6),(.t 7)]:=⟨Tryz.func182,by kernel_rfl,by kernel_rfl⟩
theorem c182 (came:B) (n:Int) (text:B) (hn:0≤n∧n≤1000) (hc:came.length≤1000) (ht:text.length≤1000):FnR Tryz.prog G 182 [.str came,.int .i64 n,.str text] (.tup [.str (q0a came n text).1,.bool (q0a came n text).2]):=by
 refine mF dg182 Tryz.ntmps182 ?_
 simp only[qwu,go_sem]
 with_reducible repeat' (first|rw[q00 (by omega)];try simp only[go_sem]|refine br ?_ ?_<;>intro h e<;>(try simp only[e,go_sem])<;>clear e|refine sd ?_<;>try simp only[go_sem]|fail)
 ·have:q0a came n text=(came,false):=by
   unfold q0a;rw[if_pos (by simp;omega)]
  rw[this];exact⟨rfl,rfl⟩
 ·have:q0a came n text=(came,false):=by
   unfold q0a;rw[if_pos (by simp;omega)]
  rw[this];exact⟨rfl,rfl⟩
 ·have:q0a came n text=(came,true):=by
   unfold q0a;rw[if_neg (by simp;omega),if_pos (by omega)]
  rw[this];exact⟨rfl,rfl⟩
 ·refine pureG (by simp;omega) ?_
  simp only[go_sem]
  have:q0a came n text=(came++text.drop (came.length - n).toNat,true):=by
   unfold q0a;rw[if_neg (by simp;omega),if_neg (by omega)]
  rw[this,List.take_length];exact⟨rfl,rfl⟩
def qut:IC:=sR [oP 2 (.mv cF)] (sR [mV 3 0,oP 4 (.call 89 [.t 3]),mV 5 4,gT 6 5 (.mv (.t 0)),gT 7 5 (.lens (.t 6)),gT 8 5 (.bin .leq (.t 7) (cI 24)),pF 9 5 8,mV 10 9,gT 11 10 (.mv (.t 0)),gT 12 10 (.call 172 [.t 11]),gT 13 10 (.bin .eql (.t 12) (.c i0)),pF 14 10 13,mV 2 14] .ret)
theorem dg151:Dg Tryz.prog 151 Tryz.f151 qut [(.t 2)]:=⟨Tryz.func151,by kernel_rfl,by kernel_rfl⟩
theorem c151 (t:B) (hl:t.length≤2000000):FnR Tryz.prog G 151 [.str t] (.bool (q5n t)):=by
 refine mF dg151 Tryz.ntmps151 ?_
 simp only[qut,go_sem]
 have c1:=c89 t hl
 have c2:=c172 t hl
 with_reducible repeat' (first|refine br ?_ ?_<;>intro h e<;>(try simp only[e,go_sem])<;>clear e|rw[q00 (by omega)]|refine sd ?_<;>try simp only[go_sem]|(first|refine cr (c1 ..) ?_|refine cr (c2 ..) ?_)<;>try simp only[go_sem]|fail)
 all_goals simp_all[q5n]
 all_goals omega
def qx8:IC:=sR [oP 2 (.mv cF)] (sR [mV 5 0,oP 6 (.call 173 [.t 5]),mV 3 6] (.seq (sR [oP 4 (.mv (.c i0))] (.block 0 (.loop (.seq (sR [mV 7 4,mV 8 3,oP 9 (.len (.t 8)),bN 10 .lss 7 9] (cD 10 .skip (.exit 0))) (.seq (.block 1 (sR [mV 13 3,mV 14 4,oP 15 (.iad 2 (.t 13) (.t 14)),lA 16 2 15,oP 17 (.call 120 [.t 16])] (cD 17 (sR [oP 2 (.mv cF)] .ret) .skip))) (.reg [mV 11 4,oP 12 (.bin .add (.t 11) (cI 1)),mV 4 12])))))) (sR [oP 2 (.mv cT)] .ret)))
theorem dg152:Dg Tryz.prog 152 Tryz.f152 qx8 [(.t 2)]:=⟨Tryz.func152,by kernel_rfl,by kernel_rfl⟩
theorem c152 (t:B) (hl:t.length≤2000000):FnR Tryz.prog G 152 [.str t] (.bool (qt4 t)):=by
 refine mF dg152 Tryz.ntmps152 ?_
 simp only[qx8,go_sem]
 refine q0m (c173 t hl) rfl rfl ?_
 simp only[go_sem]
 have hnl:(q1n t).length≤2000000:=by
  have h1:=q22 t
  have h2:=q7s (q1b t)
  unfold q1n;omega
 unfold qt4
 generalize q1n t=l at *
 refine q0d (λi:Nat=>⟨q0e [(3,.sl 2 (l.map E.row)),(4,.int .i64 (i:Int))],q01 []⟩) (λi=>l.length - i) (λi=>i≤l.length∧(l.take i).any E.door=false) 0 (leQ []) ⟨Nat.zero_le _,by simp⟩ ?_
 intro i ⟨hi,ha⟩
 simp only[go_sem]
 by_cases h:(i:Int)<l.length
 ·simp only[eq_true h,go_sem]
  have hil:i<l.length:=by omega
  have hg:l.getD i default=l[i]:=by simp[List.getD,hil]
  refine effG (by omega) ?_
  simp only[hg,go_sem]
  with_reducible repeat' (first|refine br ?_ ?_<;>intro h e<;>(try simp only[e,go_sem,hg])<;>clear e|rw[q00 (by omega)]|refine sd ?_<;>try simp only[go_sem,hg]|(first|refine cr (qja ..) ?_)<;>try simp only[go_sem,hg]|fail)
  ·have:l.any E.door=true:=List.any_eq_true.2 ⟨_,List.getElem_mem hil,by assumption⟩
   rw[this];rfl
  ·refine⟨i+1,by omega,⟨by omega, ?_⟩,(leQ [])⟩
   rw[List.take_add_one,zE hil]
   simp only[Option.toList_some,List.any_append,ha,List.any_cons,List.any_nil,Bool.or_false,Bool.false_or]
   assumption
 ·simp only[eq_false h,go_sem]
  have:i=l.length:=by omega
  subst this
  rw[List.take_length] at ha
  rw[ha];rfl
def qys:IC:=sR [oP 4 (.box 52 (.t 0)),oP 5 (.box 52 (.t 1)),oP 8 (.alloc 91 [i0,i0,i0,i0,s0,s0,i0,i0,s0,s0]),oP 9 (.mv cF)] (.seq (sR [lA 10 2 4,oP 11 (.call 127 [.t 10]),oP 12 (.un .not (.t 11)),mV 13 12,gF 14 13 (.ld 2 true (.t 5)),gF 15 13 (.call 92 [.t 14]),gF 16 13 (.un .not (.t 15)),pT 17 13 16,mV 18 17,gF 19 18 (.mv (.t 2)),gF 20 18 (.call 151 [.t 19]),gF 21 18 (.un .not (.t 20)),pT 22 18 21,mV 23 22,gF 24 23 (.mv (.t 2)),gF 25 23 (.call 152 [.t 24]),gF 26 23 (.un .not (.t 25)),pT 27 23 26,mV 28 27,gF 29 28 (.mv (.t 3)),gF 30 28 (.call 151 [.t 29]),gF 31 28 (.un .not (.t 30)),pT 32 28 31] (cD 32 (sR [oP 33 (.build [i0,i0,i0,i0,s0,s0,i0,i0,s0,s0] []),nP (.sto 10 (.t 8) (.t 33)),oP 9 (.mv cF)] .ret) .skip)) (sR [lA 34 2 4,lA 35 2 5,mV 36 2,mV 37 3,oP 38 (.build [i0,i0,i0,i0,s0,s0,i0,i0,s0,s0] [(0,(2,.t 34)),(2,(2,.t 35)),(4,(1,.t 36)),(5,(1,.t 37))]),nP (.sto 10 (.t 8) (.t 38)),oP 9 (.mv cT)] .ret))
theorem dg129:Dg Tryz.prog 129 Tryz.f129 qys [(.cell 8 10 true),(.t 9)]:=⟨Tryz.func129,by kernel_rfl,by kernel_rfl⟩
theorem c129 (i o:E) (up down:B) (h1:up.length≤2000000) (h2:down.length≤2000000):FnR Tryz.prog G 129 [.agg [.int .i64 i.a,.int .i64 i.p],.agg [.int .i64 o.a,.int .i64 o.p],.str up,.str down]
 (.tup [.agg (Conv.row ((q56 i o up down).getD .zero)),.bool (q56 i o up down).isSome]):=by
 refine mF dg129 Tryz.ntmps129 ?_
 simp only[qys,go_sem]
 have c1:=c151 up h1
 have c2:=c151 down h2
 have c3:=c152 up h1
 with_reducible repeat' (first|refine br ?_ ?_<;>intro h e<;>(try simp only[e,go_sem])<;>clear e|rw[q00 (by omega)]|refine sd ?_<;>try simp only[go_sem]|(first|refine cr (c127 ..) ?_|refine cr (c92 ..) ?_|refine cr (c1 ..) ?_|refine cr (c2 ..) ?_|refine cr (c3 ..) ?_)<;>try simp only[go_sem]|fail)
 all_goals simp_all[q56,Conv.zero,E.zero]
def ic90:IC:=sR [oP 1 (.box 91 (.t 0)),oP 2 (.mv cF)] (sR [fD 6 0 1,lA 7 2 6,fD 8 2 1,lA 9 2 8,fD 10 4 1,lD 11 1 10,fD 12 5 1,lD 13 1 12,oP 14 (.call 129 [.t 7,.t 9,.t 11,.t 13]),mV 5 14,eX 15 5 0,eX 16 5 1,oP 3 (.alloc 91 [i0,i0,i0,i0,s0,s0,i0,i0,s0,s0]),nP (.sto 10 (.t 3) (.t 15)),mV 4 16] (sR [mV 17 4,mV 18 17,gT 19 18 (.fad 6 (.t 1)),gT 20 18 (.ld 1 false (.t 19)),gT 21 18 (.fad 4 (.t 1)),gT 22 18 (.ld 1 false (.t 21)),gT 23 18 (.lens (.t 22)),gT 24 18 (.call 20 [.t 20,.c i0,.t 23]),pF 25 18 24,mV 26 25,gT 27 26 (.fad 7 (.t 1)),gT 28 26 (.ld 1 false (.t 27)),gT 29 26 (.fad 5 (.t 1)),gT 30 26 (.ld 1 false (.t 29)),gT 31 26 (.lens (.t 30)),gT 32 26 (.call 20 [.t 28,.c i0,.t 31]),pF 33 26 32,mV 34 33,gT 35 34 (.fad 8 (.t 1)),gT 36 34 (.ld 1 false (.t 35)),gT 37 34 (.call 89 [.t 36]),pF 38 34 37,mV 39 38,gT 40 39 (.fad 9 (.t 1)),gT 41 39 (.ld 1 false (.t 40)),gT 42 39 (.call 89 [.t 41]),pF 43 39 42,mV 2 43] .ret))
theorem dg90:Dg Tryz.prog 90 Tryz.f90 ic90 [(.t 2)]:=⟨Tryz.func90,by kernel_rfl,by kernel_rfl⟩
theorem c90 (c:Conv) (h1:c.up.length≤2000000) (h2:c.down.length≤2000000) (h3:c.upGot.length≤2000000) (h4:c.downGot.length≤2000000):FnR Tryz.prog G 90 [.agg [.int .i64 c.ins.a,.int .i64 c.ins.p,.int .i64 c.out.a,.int .i64 c.out.p,.str c.up,.str c.down,.int .i64 c.upAck,.int .i64 c.downAck,.str c.upGot,.str c.downGot]] (.bool (convOk c)):=by
 refine mF dg90 Tryz.ntmps90 ?_
 simp only[ic90,go_sem]
 refine q0m (c129 c.ins c.out c.up c.down h1 h2) rfl rfl ?_
 simp only[go_sem]
 have c1:=c89 c.upGot h3
 have c2:=c89 c.downGot h4
 with_reducible repeat' (first|refine br ?_ ?_<;>intro h e<;>(try simp only[e,go_sem])<;>clear e|rw[q00 (by omega)]|refine sd ?_<;>try simp only[go_sem]|(first|refine cr (c20 ..) ?_|refine cr (c1 ..) ?_|refine cr (c2 ..) ?_)<;>try simp only[go_sem]|fail)
 all_goals simp_all[convOk]
def ic98:IC:=sR [oP 5 (.box 91 (.t 0)),oP 10 (.alloc 54 [i0,i0,i0,i0,i0,i0,s0]),oP 11 (.mv cF)] (sR [fD 14 0 5,lA 15 2 14,fD 16 2 5,lA 17 2 16,mV 18 3,oP 19 (.build [i0,i0,i0,i0,i0,i0,s0] [(0,(1,cI 1)),(1,(2,.t 15)),(3,(2,.t 17)),(5,(1,.t 18))]),oP 12 (.alloc 54 [i0,i0,i0,i0,i0,i0,s0]),nP (.sto 7 (.t 12) (.t 19))] (sR [fD 20 4 5,lD 21 1 20,mV 13 21] (.seq (sR [mV 22 1,oP 23 (.un .not (.t 22))] (cD 23 (sR [fD 24 2 5,lA 25 2 24,fD 26 1 12,nP (.sto 2 (.t 26) (.t 25))] (sR [mV 27 2,oP 28 (.build [i0,i0] [(0,(1,cI 9)),(1,(1,.t 27))]),fD 29 3 12,nP (.sto 2 (.t 29) (.t 28))] (.reg [fD 30 5 5,lD 31 1 30,mV 13 31]))) .skip)) (.seq (sR [mV 32 3,mV 33 13,oP 34 (.lens (.t 33)),oP 35 (.bin .sub (.t 34) (cI 1)),oP 36 (.call 20 [.t 32,.c i0,.t 35]),oP 37 (.un .not (.t 36)),mV 38 37,gF 39 38 (.mv (.t 4)),gF 40 38 (.bin .lss (.t 39) (cI 1)),pT 41 38 40,mV 42 41,gF 43 42 (.mv (.t 1)),gF 44 42 (.un .not (.t 43)),gF 45 42 (.mv (.t 44)),gT 46 45 (.fad 3 (.t 12)),gT 47 45 (.ld 2 true (.t 46)),gT 48 45 (.call 120 [.t 47]),gT 49 45 (.un .not (.t 48)),gF 50 42 (.pick (.t 45) (.t 49) cF),pT 51 42 50] (cD 51 (sR [oP 52 (.build [i0,i0,i0,i0,i0,i0,s0] []),nP (.sto 7 (.t 10) (.t 52)),oP 11 (.mv cF)] .ret) .skip)) (sR [mV 53 13,mV 54 3,mV 55 3,mV 56 4,mV 57 13,oP 58 (.lens (.t 57)),mV 59 3,bN 60 .sub 58 59,oP 61 (.mn (.t 56) (.t 60)),bN 62 .add 55 61,oP 63 (.sls (.t 53) (some (.t 54)) (some (.t 62))),fD 64 6 12,nP (.sto 1 (.t 64) (.t 63))] (sR [lA 65 7 12,nP (.sto 7 (.t 10) (.t 65)),oP 11 (.mv cT)] .ret))))))
theorem dg98:Dg Tryz.prog 98 Tryz.f98 ic98 [(.cell 10 7 true),(.t 11)]:=⟨Tryz.func98,by kernel_rfl,by kernel_rfl⟩
theorem c98 (c:Conv) (up:Bool) (port n m:Int) (h1:c.up.length≤2000000) (h2:c.down.length≤2000000):FnR Tryz.prog G 98 [.agg [.int .i64 c.ins.a,.int .i64 c.ins.p,.int .i64 c.out.a,.int .i64 c.out.p,.str c.up,.str c.down,.int .i64 c.upAck,.int .i64 c.downAck,.str c.upGot,.str c.downGot],.bool up,.int .i64 port,.int .i64 n,.int .i64 m]
 (.tup [.agg (Pk.row ((say c up port n m).getD .zero)),.bool (say c up port n m).isSome]):=by
 refine mF dg98 Tryz.ntmps98 ?_
 simp only[ic98,go_sem]
 cases up<;>simp only[go_sem]
 ·have hno:=λh=>qeg (c:=c) (up:=false) (port:=port) (n:=n) (m:=m) h
  have hyes:=λh1 h2 h3=>qaj (c:=c) (up:=false) (port:=port) (n:=n) (m:=m) h1 h2 h3
  simp only[cond_false,true_and,Bool.false_eq_true,false_or] at hno hyes
  rw[q00 (by omega)]
  refine q0m (c20 n 0 ((c.down.length:Int) - 1)) rfl rfl ?_
  cases hw:q0j n 0 ((c.down.length:Int) - 1)<;>simp only[go_sem]
  ·rw[hno (.inl hw)];simp[Pk.zero,E.zero]
  have hw2:=M.within_iff.1 hw
  have w1:IntKind.i64.wrap ((c.down.length:Int) - n)=c.down.length - n:=q00 (by omega)
  have w2:1≤m→IntKind.i64.wrap (n+min m ((c.down.length:Int) - n))=n+min m ((c.down.length:Int) - n):=λ_=>q00 (by omega)
  with_reducible repeat' (first|refine br ?_ ?_<;>intro h e<;>(try simp only[e,go_sem,w1])<;>clear e|rw[q00 (by omega)]|refine sd ?_<;>try simp only[go_sem,w1]|(first|refine cr (qja ..) ?_)<;>try simp only[go_sem,w1]|fail)
  ·rw[hno (.inr (.inl (by assumption)))];simp[Pk.zero,E.zero]
  ·rw[hyes hw (by omega) (by assumption),q3a (by omega) (by omega)]
   simp
  ·rw[hno (.inr (.inr (by assumption)))];simp[Pk.zero,E.zero]
 ·have hno:=λh=>qeg (c:=c) (up:=true) (port:=port) (n:=n) (m:=m) h
  have hyes:=λh1 h2 h3=>qaj (c:=c) (up:=true) (port:=port) (n:=n) (m:=m) h1 h2 h3
  simp only[cond_true,true_or,true_implies,Bool.true_eq_false,false_and,or_false] at hno hyes
  rw[q00 (by omega)]
  refine q0m (c20 n 0 ((c.up.length:Int) - 1)) rfl rfl ?_
  cases hw:q0j n 0 ((c.up.length:Int) - 1)<;>simp only[go_sem]
  ·rw[hno (.inl hw)];simp[Pk.zero,E.zero]
  have hw2:=M.within_iff.1 hw
  have w1:IntKind.i64.wrap ((c.up.length:Int) - n)=c.up.length - n:=q00 (by omega)
  have w2:1≤m→IntKind.i64.wrap (n+min m ((c.up.length:Int) - n))=n+min m ((c.up.length:Int) - n):=λ_=>q00 (by omega)
  with_reducible repeat' (first|refine br ?_ ?_<;>intro h e<;>(try simp only[e,go_sem,w1])<;>clear e|rw[q00 (by omega)]|refine sd ?_<;>try simp only[go_sem,w1]|(first|refine cr (qja ..) ?_)<;>try simp only[go_sem,w1]|fail)
  ·rw[hno (.inr (by assumption))];simp[Pk.zero,E.zero]
  ·rw[hyes hw (by omega),q3a (by omega) (by omega)]
   simp
def q8j (w:M.World) (r:V) (out:List Hs):Prop:=r=.agg [.own 0 w.convs.length,.own 1 w.door.map.length,.own 2 w.door.flows.length,.own 3 w.nets.length]∧out=[.arr 91 10 (w.convs.map Conv.row),.arr 132 3 (w.door.map.map Pair.row),.arr 130 8 (w.door.flows.map Flw.row),.arr 54 7 (w.nets.map Pk.row)]
theorem q1d {w:M.World} {l:List (Nat×V)} {mm:List (Nat×Hs)} {d c:Nat} (n0 n1 n2 n3:Nat) (h4:q0e l d=.pv c 0)
 (m4:q01 mm c=.var 38 [.own n0 w.convs.length,.own n1 w.door.map.length,.own n2 w.door.flows.length,.own n3 w.nets.length])
 (m0:q01 mm n0=.arr 91 10 (w.convs.map Conv.row)) (m1:q01 mm n1=.arr 132 3 (w.door.map.map Pair.row)) (m2:q01 mm n2=.arr 130 8 (w.door.flows.map Flw.row)) (m3:q01 mm n3=.arr 54 7 (w.nets.map Pk.row))
 (hne:[n0,n1,n2,n3].Nodup):q6f [.cell d 4 true] 0 (q8j w) .ret ⟨q0e l,q01 mm⟩:=by
 refine q1h (.agg [.own 0 w.convs.length,.own 1 w.door.map.length,.own 2 w.door.flows.length,.own 3 w.nets.length]) [.arr 91 10 (w.convs.map Conv.row),.arr 132 3 (w.door.map.map Pair.row),.arr 130 8 (w.door.flows.map Flw.row),.arr 54 7 (w.nets.map Pk.row)] [(0,n0),(1,n1),(2,n2),(3,n3)] ?_ ⟨rfl,rfl⟩ ?_ (by simpa[q11,q0f] using hne) (by simp only[go_sem])
 ·simp only[go_sem,h4,m4]
 ·simp only[go_sem,m0,m1,m2,m3]
theorem qg9 (o:Option Pk):(bif o.isSome then some (o.getD .zero) else none)=o:=by cases o<;>rfl
def ic99:IC:=sR [oP 2 (.box 38 (.t 0)),oP 3 (.box 52 (.t 1)),oP 4 (.mv (.c i0))] (.seq (sR [oP 5 (.mv (.c i0))] (.block 0 (.loop (.seq (sR [mV 6 5,fD 7 1 2,fD 8 0 7,lD 9 1 8,oP 10 (.len (.t 9)),bN 11 .lss 6 10] (cD 11 .skip (.exit 0))) (.seq (.block 1 (.seq (.drw [0,1,3,0,15,31,63,0,255] [(0,fD 14 1 2),(1,fD 15 0 14),(2,lD 16 1 15),(3,mV 17 5),(4,oP 18 (.iad 3 (.t 16) (.t 17))),(5,fD 19 1 18),(6,lA 20 2 19),(7,lA 21 2 3),(8,oP 22 (.eqs false [.i,.i] (.t 20) (.t 21)))]) (cD 22 (sR [fD 23 1 2,fD 24 0 23,lD 25 1 24,mV 26 5,oP 27 (.iad 3 (.t 25) (.t 26)),fD 28 0 27,lD 29 1 28,mV 4 29] .ret) .skip))) (.reg [mV 12 5,oP 13 (.bin .add (.t 12) (cI 1)),mV 5 13])))))) (sR [oP 4 (.mv (.c i0))] .ret))
theorem dg99:Dg Tryz.prog 99 Tryz.f99 ic99 [(.t 4)]:=⟨Tryz.func99,by kernel_rfl,by kernel_rfl⟩
theorem c99 (w:M.World) (i:E) (hl:w.door.map.length≤2000000):FnR Tryz.prog G 99 [.agg [.sl 10 (w.convs.map Conv.row),.sl 3 (w.door.map.map Pair.row),.sl 8 (w.door.flows.map Flw.row),.sl 7 (w.nets.map Pk.row)],.agg [.int .i64 i.a,.int .i64 i.p]] (.int .i64 (portOf w.door.map i)):=by
 refine mF dg99 Tryz.ntmps99 ?_
 simp only[ic99,go_sem]
 refine q0d (λk:Nat=>⟨q0e [(2,.pv 3000002 0),(3,.pv 3000003 0),(5,.int .i64 (k:Int))],q01 [(3000002,.var 38 [.sl 10 (w.convs.map Conv.row),.sl 3 (w.door.map.map Pair.row),.sl 8 (w.door.flows.map Flw.row),.sl 7 (w.nets.map Pk.row)]),(3000003,.var 52 [.int .i64 i.a,.int .i64 i.p])]⟩) (λk=>w.door.map.length - k)
  (λk=>k≤w.door.map.length∧portOf w.door.map i=portOf (w.door.map.drop k) i) 0 (leQ []) ⟨Nat.zero_le _,by simp⟩ ?_
 intro k ⟨hk,ha⟩
 simp only[go_sem]
 by_cases h:(k:Int)<w.door.map.length
 ·have hil:k<w.door.map.length:=by omega
  have hg:w.door.map.getD k default=w.door.map[k]:=by simp[List.getD,hil]
  rw[List.drop_eq_getElem_cons hil,q3f] at ha
  simp only[eq_true h,go_sem]
  with_reducible repeat' (first|refine br ?_ ?_<;>intro h e<;>(try simp only[e,go_sem,hg,E.ext_iff'])<;>clear e|rw[q00 (by omega)]|refine sd ?_<;>try simp only[go_sem,hg,E.ext_iff']|fail)
  ·rw[if_pos (by assumption)] at ha
   rw[ha]
  ·rw[if_neg (by assumption)] at ha
   exact⟨k+1,by omega,⟨by omega,ha⟩,(leQ [])⟩
 ·simp only[eq_false h,go_sem]
  have:k=w.door.map.length:=by omega
  subst this
  rw[ha,List.drop_length];rfl
def ic79:IC:=sR [oP 2 (.box 38 (.t 0)),oP 3 (.box 54 (.t 1)),oP 4 (.mv cF)] (.seq (sR [oP 5 (.mv (.c i0))] (.block 0 (.loop (.seq (sR [mV 6 5,fD 7 0 2,lD 8 1 7,oP 9 (.len (.t 8)),bN 10 .lss 6 9] (cD 10 .skip (.exit 0))) (.seq (.block 1 (.seq (.drw [0,1,0,7,15,31,0,64,255] [(0,fD 13 0 2),(1,lD 14 1 13),(2,mV 15 5),(3,oP 16 (.iad 10 (.t 14) (.t 15))),(4,fD 17 2 16),(5,lA 18 2 17),(6,fD 19 1 3),(7,lA 20 2 19),(8,oP 21 (.eqs false [.i,.i] (.t 18) (.t 20)))]) (cD 21 (sR [oP 4 (.mv cF)] .ret) .skip))) (.reg [mV 11 5,oP 12 (.bin .add (.t 11) (cI 1)),mV 5 12])))))) (sR [lA 22 7 3,oP 23 (.call 46 [.t 22]),mV 24 23,gT 25 24 (.fad 1 (.t 3)),gT 26 24 (.ld 2 true (.t 25)),gT 27 24 (.call 92 [.t 26]),pF 28 24 27,mV 29 28,gT 30 29 (.fad 3 (.t 3)),gT 31 29 (.ld 2 true (.t 30)),gT 32 29 (.call 120 [.t 31]),pF 33 29 32,mV 4 33] .ret))
theorem dg79:Dg Tryz.prog 79 Tryz.f79 ic79 [(.t 4)]:=⟨Tryz.func79,by kernel_rfl,by kernel_rfl⟩
theorem c79 (w:M.World) (p:Pk) (hl:w.convs.length≤2000000) (ht:p.text.length≤2000000):FnR Tryz.prog G 79 [.agg [.sl 10 (w.convs.map Conv.row),.sl 3 (w.door.map.map Pair.row),.sl 8 (w.door.flows.map Flw.row),.sl 7 (w.nets.map Pk.row)],.agg [.int .i64 p.kind,.int .i64 p.frm.a,.int .i64 p.frm.p,.int .i64 p.to.a,.int .i64 p.to.p,.int .i64 p.at_,.str p.text]] (.bool (q28 w p)):=by
 refine mF dg79 Tryz.ntmps79 ?_
 simp only[ic79,go_sem]
 refine q0d (λk:Nat=>⟨q0e [(2,.pv 3000002 0),(3,.pv 3000003 0),(5,.int .i64 (k:Int))],q01 [(3000002,.var 38 [.sl 10 (w.convs.map Conv.row),.sl 3 (w.door.map.map Pair.row),.sl 8 (w.door.flows.map Flw.row),.sl 7 (w.nets.map Pk.row)]),(3000003,.var 54 [.int .i64 p.kind,.int .i64 p.frm.a,.int .i64 p.frm.p,.int .i64 p.to.a,.int .i64 p.to.p,.int .i64 p.at_,.str p.text])]⟩) (λk=>w.convs.length - k)
  (λk=>k≤w.convs.length∧(w.convs.take k).any (λc=>decide (c.out=p.frm))=false) 0 (leQ []) ⟨Nat.zero_le _,by simp⟩ ?_
 intro k ⟨hk,ha⟩
 simp only[go_sem]
 by_cases h:(k:Int)<w.convs.length
 ·have hil:k<w.convs.length:=by omega
  have hg:w.convs.getD k default=w.convs[k]:=by simp[List.getD,hil]
  simp only[eq_true h,go_sem]
  with_reducible repeat' (first|refine br ?_ ?_<;>intro h e<;>(try simp only[e,go_sem,hg,E.ext_iff'])<;>clear e|rw[q00 (by omega)]|refine sd ?_<;>try simp only[go_sem,hg,E.ext_iff']|fail)
  ·have:w.convs.any (λc=>decide (c.out=p.frm))=true:=List.any_eq_true.2 ⟨_,List.getElem_mem hil,by simpa using(by assumption)⟩
   simp[q28,this]
  ·refine⟨k+1,by omega,⟨by omega, ?_⟩,(leQ [])⟩
   rw[List.take_add_one,zE hil]
   simp only[Option.toList_some,List.any_append,ha,List.any_cons,List.any_nil,Bool.or_false,Bool.false_or,decide_eq_false_iff_not]
   assumption
 ·simp only[eq_false h,go_sem]
  have:k=w.convs.length:=by omega
  subst this
  rw[List.take_length] at ha
  have c1:=c46 p ht
  with_reducible repeat' (first|refine br ?_ ?_<;>intro h e<;>(try simp only[e,go_sem])<;>clear e|rw[q00 (by omega)]|refine sd ?_<;>try simp only[go_sem]|(first|refine cr (c1 ..) ?_|refine cr (c92 ..) ?_|refine cr (qja ..) ?_)<;>try simp only[go_sem]|fail)
  all_goals simp_all[q28,Pk.inward]
theorem qm3 (c:Conv) (port n m:Int):say c true port n m=say c true 0 n m:=rfl
def ic51:IC:=sR [oP 2 (.box 38 (.t 0)),oP 3 (.box 56 (.t 1)),oP 4 (.alloc 54 [i0,i0,i0,i0,i0,i0,s0]),oP 5 (.mv cF)] (.seq (sR [fD 7 1 3,lD 8 1 7,fD 9 0 2,lD 10 1 9,oP 11 (.len (.t 10)),oP 12 (.bin .sub (.t 11) (cI 1)),oP 13 (.call 20 [.t 8,.c i0,.t 12]),oP 14 (.un .not (.t 13))] (cD 14 (sR [oP 15 (.build [i0,i0,i0,i0,i0,i0,s0] []),nP (.sto 7 (.t 4) (.t 15)),oP 5 (.mv cF)] .ret) .skip)) (sR [fD 16 0 2,lD 17 1 16,fD 18 1 3,lD 19 1 18,oP 20 (.iad 10 (.t 17) (.t 19)),lA 21 10 20,oP 6 (.alloc 91 [i0,i0,i0,i0,s0,s0,i0,i0,s0,s0]),nP (.sto 10 (.t 6) (.t 21))] (.seq (.drw [0,0,2,6,0,0,32,112,0,256,0,1024,4095,8191,8191,32767,65535] [(0,lA 22 10 6),(1,fD 23 0 3),(2,lD 24 1 23),(3,oP 25 (.bin .eql (.t 24) (cI 1))),(4,lA 26 4 2),(5,fD 27 0 6),(6,lA 28 2 27),(7,oP 29 (.call 99 [.t 26,.t 28])),(8,fD 30 2 3),(9,lD 31 1 30),(10,fD 32 3 3),(11,lD 33 1 32),(12,oP 34 (.call 98 [.t 22,.t 25,.t 29,.t 31,.t 33])),(13,eX 35 34 0),(14,eX 36 34 1),(15,nP (.sto 7 (.t 4) (.t 35))),(16,mV 5 36)]) .ret)))
theorem dg51:Dg Tryz.prog 51 Tryz.f51 ic51 [(.cell 4 7 true),(.t 5)]:=⟨Tryz.func51,by kernel_rfl,by kernel_rfl⟩
theorem c51 (w:M.World) (e:Ev) (hm:w.door.map.length≤2000000) (hc:w.convs.length≤2000000) (ht:∀c∈w.convs,c.up.length≤2000000∧c.down.length≤2000000):FnR Tryz.prog G 51 [.agg [.sl 10 (w.convs.map Conv.row),.sl 3 (w.door.map.map Pair.row),.sl 8 (w.door.flows.map Flw.row),.sl 7 (w.nets.map Pk.row)],.agg [.int .i64 e.kind,.int .i64 e.a,.int .i64 e.b,.int .i64 e.c,.int .i64 e.pkt.kind,.int .i64 e.pkt.frm.a,.int .i64 e.pkt.frm.p,.int .i64 e.pkt.to.a,.int .i64 e.pkt.to.p,.int .i64 e.pkt.at_,.str e.pkt.text]]
 (.tup [.agg (Pk.row ((q7l w (decide (e.kind=1)) e.a e.b e.c).getD .zero)),.bool (q7l w (decide (e.kind=1)) e.a e.b e.c).isSome]):=by
 refine mF dg51 Tryz.ntmps51 ?_
 simp only[ic51,go_sem]
 generalize hw:q0j e.a 0 ((w.convs.length:Int) - 1)=b
 have hw2:b=true→0≤e.a∧e.a≤(w.convs.length:Int) - 1:=λh=>M.within_iff.1 (hw.trans h)
 rw[q00 (by omega)]
 refine q0m (c20 e.a 0 ((w.convs.length:Int) - 1)) rfl rfl ?_
 rw[hw]
 cases b<;>simp only[go_sem]
 ·have:q7l w (decide (e.kind=1)) e.a e.b e.c=none:=by simp[q7l,hw]
  rw[this]
  simp[Pk.zero,E.zero]
 have hw2:=hw2 rfl
 have hil:e.a.toNat<w.convs.length:=by omega
 have hg:w.convs.getD e.a.toNat default=w.convs[e.a.toNat]:=by simp[List.getD,hil]
 have hcv:=ht _ (List.getElem_mem hil)
 have hx:q7l w (decide (e.kind=1)) e.a e.b e.c=say w.convs[e.a.toNat] (decide (e.kind=1)) (portOf w.door.map w.convs[e.a.toNat].ins) e.b e.c:=by
  simp only[q7l,hw,if_true,zE hil]
  cases decide (e.kind=1)
  ·rfl
  ·simp only[cond_true];rw[qm3 _ (portOf _ _)]
 rw[hx]
 generalize hcc:w.convs[e.a.toNat]=c at *
 have p1:=c99 w c.ins hm
 have p2:=c98 c (decide (e.kind=1)) (portOf w.door.map c.ins) e.b e.c hcv.1 hcv.2
 with_reducible repeat' (first|refine br ?_ ?_<;>intro h e<;>(try simp only[e,go_sem,hg])<;>clear e|rw[q00 (by omega)]|refine sd ?_<;>try simp only[go_sem,hg]|(first|refine cr (p1 ..) ?_|refine cr (p2 ..) ?_)<;>try simp only[go_sem,hg]|fail)
def ic77:IC:=sR [oP 3 (.box 38 (.t 0)),oP 4 (.box 54 (.t 1)),oP 6 (.alloc 38 [.nils,.nils,.nils,.nils])] (.seq (sR [mV 7 2,mV 8 7,gT 9 8 (.fad 3 (.t 3)),gT 10 8 (.ld 1 false (.t 9)),gT 11 8 (.len (.t 10)),gT 12 8 (.bin .lss (.t 11) (cI 10)),pF 13 8 12] (cD 13 (.reg [fD 14 3 3,lD 15 1 14,lA 16 7 4,oP 17 (.bsl 54 7 [.t 16]),oP 18 (.app 54 7 (.t 15) (.t 17)),fD 19 3 3,nP (.sto 1 (.t 19) (.t 18))]) .skip)) (sR [lA 20 4 3,nP (.sto 4 (.t 6) (.t 20))] .ret))
theorem dg77:Dg Tryz.prog 77 Tryz.f77 ic77 [(.cell 6 4 true)]:=⟨Tryz.func77,by kernel_rfl,by kernel_rfl⟩
theorem c77 (w:M.World) (p:Pk) (ok:Bool) (hn:w.nets.length≤2000000):FnP Tryz.prog G 77 0 [.arr 91 10 (w.convs.map Conv.row),.arr 132 3 (w.door.map.map Pair.row),.arr 130 8 (w.door.flows.map Flw.row),.arr 54 7 (w.nets.map Pk.row)] [.agg [.own 0 w.convs.length,.own 1 w.door.map.length,.own 2 w.door.flows.length,.own 3 w.nets.length],.agg [.int .i64 p.kind,.int .i64 p.frm.a,.int .i64 p.frm.p,.int .i64 p.to.a,.int .i64 p.to.p,.int .i64 p.at_,.str p.text],.bool ok] (q8j (q4y w (bif ok then some p else none))):=by
 refine mP dg77 Tryz.ntmps77 ⟨_,_,rfl,rfl⟩ ?_
 simp only[ic77,go_sem]
 have hno:q4y w none=w:=rfl
 have hfull:¬w.nets.length<10→q4y w (some p)=w:=λh=>by simp only[q4y];rw[if_neg h]
 cases ok<;>simp only[go_sem]
 ·rw[hno]
  exact q1d (c:=3000006) 0 1 2 3 (by simp only[go_sem]) (by simp only[go_sem]) (by simp only[go_sem]) (by simp only[go_sem]) (by simp only[go_sem]) (by simp only[go_sem]) (by decide)
 with_reducible repeat' (first|refine br ?_ ?_<;>intro h e<;>(try simp only[e,go_sem])<;>clear e|rw[q00 (by omega)]|refine sd ?_<;>try simp only[go_sem]|fail)
 ·have hx:q4y w (some p)={ w with nets:=w.nets++[p] }:=by simp only[q4y];rw[if_pos (by omega)]
  rw[hx]
  refine q1d (c:=3000006) 0 1 2 3000018 (by simp only[go_sem]) (by simp only[go_sem];simp) (by simp only[go_sem]) (by simp only[go_sem]) (by simp only[go_sem]) (by simp only[go_sem];simp[Pk.row]) (by decide)
 ·rw[hfull (by omega)]
  exact q1d (c:=3000006) 0 1 2 3 (by simp only[go_sem]) (by simp only[go_sem]) (by simp only[go_sem]) (by simp only[go_sem]) (by simp only[go_sem]) (by simp only[go_sem]) (by decide)
def putA (m:List Pair) (s:Strm) (n:Int) (t:B) (out:Bool) (r:V) (o:List Hs):Prop :=
 (put m s n t out).1=m∧r=.tup [.own 0 m.length,.agg [.str (put m s n t out).2.1.inn,.sl 2 ((put m s n t out).2.1.parts.map Part.row)],.bool (put m s n t out).2.2]∧o=[.arr 132 3 (m.map Pair.row)]
def putB (m:List Pair) (s:Strm) (n:Int) (t:B) (out:Bool) (r:V) (o:List Hs):Prop :=
 (put m s n t out).2.2=true∧r=.tup [.own 1 (put m s n t out).1.length,.agg [.str (put m s n t out).2.1.inn,.sl 2 ((put m s n t out).2.1.parts.map Part.row)],.bool true]∧o=[.dead,.arr 132 3 ((put m s n t out).1.map Pair.row)]
theorem qgx:Hs.live .dead=false:=of_eq_true (eq_self _)
theorem q8g (l:List Pc):q0w l []=[]:=by cases l<;>rfl
theorem q8k (l:B) (d n:Nat):(l.take ((d:Int)+(n:Int)).toNat).drop d=(l.drop d).take n:=by
 rw[List.drop_take];congr 1;omega
def qqd:IC:=sR [oP 6 (.box 128 (.t 1)),oP 10 (.mv (.c .nils)),oP 11 (.alloc 128 [s0,.nils]),oP 12 (.mv cF)] (sR [fD 21 0 6,lD 22 1 21,oP 23 (.lens (.t 22)),mV 13 23] (.seq (sR [mV 24 2,mV 25 13,bN 26 .gtr 24 25,mV 27 26,gF 28 27 (.mv (.t 2)),gF 29 27 (.mv (.t 3)),gF 30 27 (.lens (.t 29)),gF 31 27 (.bin .add (.t 28) (.t 30)),gF 32 27 (.bin .gtr (.t 31) (cI 40)),pT 33 27 32] (cD 33 (.seq (.drw [0,0,1,7,15] [(0,mV 34 0),(1,lA 35 2 6),(2,mV 10 34),(3,nP (.sto 2 (.t 11) (.t 35))),(4,oP 12 (.mv cF))]) .ret) .skip)) (.seq (sR [mV 36 2,mV 37 3,oP 38 (.lens (.t 37)),bN 39 .add 36 38,mV 40 13,bN 41 .leq 39 40] (cD 41 (.seq (.drw [0,0,1,7,15] [(0,mV 42 0),(1,lA 43 2 6),(2,mV 10 42),(3,nP (.sto 2 (.t 11) (.t 43))),(4,oP 12 (.mv cT))]) .ret) .skip)) (.seq (.drw [0,1,0,0,0,24,60,127,255] [(0,fD 44 0 6),(1,lD 45 1 44),(2,mV 46 3),(3,mV 47 13),(4,mV 48 2),(5,bN 49 .sub 47 48),(6,oP 50 (.sls (.t 46) (some (.t 49)) none)),(7,bN 51 .add 45 50),(8,mV 14 51)]) (sR [lA 52 2 6,oP 53 (.call 198 [.t 52]),mV 15 53] (sR [mV 54 14,oP 55 (.call 153 [.t 54]),mV 16 55] (sR [mV 56 14,oP 57 (.bsl 167 2 []),fD 58 1 6,lD 59 1 58,oP 60 (.app 167 2 (.t 57) (.t 59)),oP 61 (.build [s0,.nils] [(0,(1,.t 56)),(1,(1,.t 60))]),oP 17 (.alloc 128 [s0,.nils]),nP (.sto 2 (.t 17) (.t 61))] (.seq (sR [fD 62 1 6,lD 63 1 62,oP 64 (.len (.t 63)),mV 18 64] (.block 0 (.loop (.seq (sR [mV 65 18,mV 66 16,oP 67 (.len (.t 66)),bN 68 .lss 65 67] (cD 68 .skip (.exit 0))) (.seq (.block 1 (sR [mV 71 14,mV 72 15,mV 73 15,mV 74 16,mV 75 18,oP 76 (.iad 4 (.t 74) (.t 75)),fD 77 0 76,lD 78 1 77,bN 79 .add 73 78,oP 80 (.sls (.t 71) (some (.t 72)) (some (.t 79))),mV 19 80] (sR [oP 20 (.mv (.c s0))] (.seq (sR [mV 81 4] (cD 81 (.reg [mV 83 0,mV 84 16,mV 85 18,oP 86 (.iad 4 (.t 84) (.t 85)),lA 87 4 86,mV 88 19,oP 89 (.call 199 [.t 83,.t 87,.t 88]),mV 82 89,eX 90 82 0,eX 91 82 1,mV 0 90,mV 20 91]) (.reg [mV 92 0,mV 93 16,mV 94 18,oP 95 (.iad 4 (.t 93) (.t 94)),lA 96 4 95,mV 97 19,oP 98 (.call 200 [.t 92,.t 96,.t 97]),mV 20 98]))) (.seq (.drw [0,1,0,0,12,28,60,0,252,508,1023,2047,4095] [(0,fD 99 1 17),(1,lD 100 1 99),(2,mV 101 16),(3,mV 102 18),(4,oP 103 (.iad 4 (.t 101) (.t 102))),(5,fD 104 0 103),(6,lD 105 1 104),(7,mV 106 20),(8,oP 107 (.build [i0,s0] [(0,(1,.t 105)),(1,(1,.t 106))])),(9,oP 108 (.bsl 167 2 [.t 107])),(10,oP 109 (.app 167 2 (.t 100) (.t 108))),(11,fD 110 1 17),(12,nP (.sto 1 (.t 110) (.t 109)))]) (.reg [mV 111 15,mV 112 16,mV 113 18,oP 114 (.iad 4 (.t 112) (.t 113)),fD 115 0 114,lD 116 1 115,bN 117 .add 111 116,mV 15 117])))))) (.reg [mV 69 18,oP 70 (.bin .add (.t 69) (cI 1)),mV 18 70])))))) (.seq (.drw [0,0,1,7,15] [(0,mV 118 0),(1,lA 119 2 17),(2,mV 10 118),(3,nP (.sto 2 (.t 11) (.t 119))),(4,oP 12 (.mv cT))]) .ret)))))))))
theorem qwn:Dg Tryz.prog 179 Tryz.f179 qqd [(.t 10),(.cell 11 2 true),(.t 12)]:=⟨Tryz.func179,by kernel_rfl,by kernel_rfl⟩
theorem qfk (m:List Pair) (s:Strm) (n:Int) (t:B) (out:Bool) (h:(q0a s.inn n t).2=false):put m s n t out=(m,s,false):=by simp[put,h]
theorem quq (m:List Pair) {s:Strm} (n:Int) (t:B) (out:Bool) (hs:strmOk s=true) (h:¬(n>s.inn.length∨n+t.length>40)) (h2:n+t.length≤s.inn.length):put m s n t out=(m,s,true):=by
 have hb:q0a s.inn n t=(s.inn,true):=by
  unfold q0a;rw[if_neg (by simpa using h),if_pos h2]
 obtain⟨d1,d2⟩:=q8t hs
 have:(pieces s.inn).drop s.parts.length=[]:=by rw[d2,List.drop_length]
 simp[put,hb,this,turned,q0w]
theorem q76:∀(l:List Pc) (m:List Pair) (s:B),(turned m l s false).1=m
 | [],m,s=>rfl
 | p::ps,m,s=>by simp only[turned];rw[q76 ps];rfl
theorem c179F (m:List Pair) (s:Strm) (n:Int) (t:B) (h:PutOk m s n t):FnP Tryz.prog G 179 1 [.arr 132 3 (m.map Pair.row)] [.own 0 m.length,.agg [.str s.inn,.sl 2 (s.parts.map Part.row)],.int .i64 n,.str t,.bool false] (putA m s n t false):=by
 refine mP qwn Tryz.ntmps179 ?_ ?_
 ·refine⟨_,_, ?_,rfl,rfl⟩
  cases hb:(q0a s.inn n t).2
  ·rw[qfk _ _ _ _ _ hb]
  ·simp[put,hb,q76]
 obtain⟨hm,hs,hn,ht⟩:=h
 obtain⟨hp,hml⟩:=q0b hm
 obtain⟨s1,s2,s3⟩:=q0t hs
 have keep:∀l mm ok,put m s n t false=(m,s,ok)→q0e l 10=.own 0 m.length→q0e l 11=.pv 3000011 0→q0e l 12=.bool ok→q01 mm 0=.arr 132 3 (m.map Pair.row)→q01 mm 3000011=.var 128 [.str s.inn,.sl 2 (s.parts.map Part.row)] →
  q6f [.t 10,.cell 11 2 true,.t 12] 1 (putA m s n t false) .ret ⟨q0e l,q01 mm⟩:=λl mm ok h1 h2 h3 h4 h5 h6=>by
  refine q1h (.tup [.own 0 m.length,.agg [.str (put m s n t false).2.1.inn,.sl 2 ((put m s n t false).2.1.parts.map Part.row)],.bool (put m s n t false).2.2]) [.arr 132 3 (m.map Pair.row)] [] ?_ ⟨by rw[h1],rfl,rfl⟩ ?_ (by simp[q11]) (by simp only[go_sem])
  ·simp only[go_sem,h1,h2,h3,h4,h6]
  ·simp only[go_sem,h5]
 simp only[qqd,go_sem]
 with_reducible repeat' (first|rw[q00 (by omega)];try simp only[go_sem]|refine br ?_ ?_<;>intro h e<;>(try simp only[e,go_sem])<;>clear e|refine sd ?_<;>try simp only[go_sem]|fail)
 ·exact keep _ _ _ (qfk _ _ _ _ _ (by unfold q0a;rw[if_pos (by simp;omega)])) (by simp only[go_sem]) (by simp only[go_sem]) (by simp only[go_sem]) (by simp only[go_sem]) (by simp only[go_sem])
 ·exact keep _ _ _ (qfk _ _ _ _ _ (by unfold q0a;rw[if_pos (by simp;omega)])) (by simp only[go_sem]) (by simp only[go_sem]) (by simp only[go_sem]) (by simp only[go_sem]) (by simp only[go_sem])
 ·exact keep _ _ _ (quq _ _ _ _ hs (by omega) (by omega)) (by simp only[go_sem]) (by simp only[go_sem]) (by simp only[go_sem]) (by simp only[go_sem]) (by simp only[go_sem])
 have hb:q0a s.inn n t=(s.inn++t.drop (s.inn.length - n).toNat,true):=by
  unfold q0a;rw[if_neg (by simp;omega),if_neg (by omega)]
 have hbp:(q0a s.inn n t).2=true:=by rw[hb]
 have hfin:∀mm ts d,PutI m s (q0a s.inn n t).1 false mm ts (pieces (q0a s.inn n t).1).length d→_:=λmm ts d h=>qev hbp h
 have h0:=PutI.init (x:=t.drop (s.inn.length - n).toNat) (out:=false) hp hs
 rw[hb] at hfin
 refine pureG (by simp;omega) ?_
 simp only[List.take_length,go_sem]
 generalize hin:s.inn++t.drop (s.inn.length - n).toNat=inn at *
 have hil:inn.length≤80:=by rw[←hin];simp;omega
 have hpl:=q3c inn
 with_reducible repeat' (first|rw[q00 (by omega)];try simp only[go_sem]|refine br ?_ ?_<;>intro h e<;>(try simp only[e,go_sem])<;>clear e|refine sd ?_<;>try simp only[go_sem]|fail)
 refine q0m (c198 s ⟨s1,s2,s3⟩) rfl rfl ?_
 simp only[go_sem]
 with_reducible repeat' (first|rw[q00 (by omega)];try simp only[go_sem]|refine br ?_ ?_<;>intro h e<;>(try simp only[e,go_sem])<;>clear e|refine sd ?_<;>try simp only[go_sem]|(first|refine cr (c153 ..) ?_)<;>try simp only[go_sem]|fail)
 refine q0d (λa:List B×Nat×Nat=>⟨q0e [(0,.own 0 m.length),(4,.bool false),(11,.pv 3000011 0),(14,.str inn),(15,.int .i64 (a.2.2:Int)),(16,.sl 4 ((pieces inn).map Pc.row)),(17,.pv 3000017 0),(18,.int .i64 (a.2.1:Int))],
  q01 [(0,.arr 132 3 (m.map Pair.row)),(3000011,.var 128 [.str [],.nils]),(3000017,.var 128 [.str inn,.own 3000060 a.2.1]),(3000060,.arr 167 2 ((s.parts++q0w ((pieces inn).drop s.parts.length) a.1).map Part.row))]⟩) (λa=>(pieces inn).length - a.2.1)
  (λa=>PutI m s inn false m a.1 a.2.1 a.2.2) ([],s.parts.length,doneP s.parts) ?_ h0 ?_
 ·refine leN [] (by simp only[go_sem];first|done|rfl) ?_ (by simp[q0f]) (by simp only[go_sem])
  simp only[go_sem];simp[q8g]
 intro⟨ts,i,d⟩ hI
 simp only at hI
 simp only[go_sem]
 have hi:=hI.hi
 by_cases h:(i:Int)<(pieces inn).length
 ·obtain⟨hst1,hst2⟩:=hI.step (by omega)
  have hml2:=q2w ((pieces inn).drop s.parts.length) ts (by have:=hI.ht;rw[List.length_drop];omega)
  have hml3:(s.parts++q0w ((pieces inn).drop s.parts.length) ts).length=i:=by rw[zA,hml2];exact hI.ht
  have hma:=q5y ((pieces inn).drop s.parts.length) ts (q2i m ((pieces inn).getD i default) ((inn.drop d).take ((pieces inn).getD i default).size)) (by have:=hI.ht;rw[List.length_drop];omega)
  have hgq:((pieces inn).drop s.parts.length).getD ts.length default=(pieces inn).getD i default:=by
   simp only[List.getD_eq_getElem?_getD,List.getElem?_drop,hI.ht]
  rw[hgq] at hma
  have hht:=hI.ht
  simp only[turn,cond_false] at hst2
  obtain⟨q,hq⟩:∃q,(pieces inn).getD i default=q:=⟨_,rfl⟩
  rw[hq] at hst1 hst2 hma
  simp only[eq_true h,go_sem]
  refine effG (by omega) ?_
  simp only[go_sem,hq]
  with_reducible repeat' (first|rw[q00 (by omega)];try simp only[go_sem,hq]|refine br ?_ ?_<;>intro h e<;>(try simp only[e,go_sem,hq])<;>clear e|refine sd ?_<;>try simp only[go_sem,hq]|fail)
  rw[q8k]
  refine q34 (c200 m q.size q.named q.e.a q.e.p ((inn.drop d).take q.size) hm) [0] false (by simp only[go_sem];first|done|simp[E.row,Pc.row,Pair.row,Part.row,Flw.row,Pk.row,Conv.row]) (by simp only[List.mem_singleton];rintro c rfl;rfl) rfl (.inr rfl) ?_
  simp only[go_sem,hq]
  with_reducible repeat' (first|rw[q00 (by omega)];try simp only[go_sem,hq]|refine br ?_ ?_<;>intro h e<;>(try simp only[e,go_sem,hq])<;>clear e|refine sd ?_<;>try simp only[go_sem,hq]|fail)
  refine⟨(ts++[q2i m q ((inn.drop d).take q.size)],i+1,d+q.size),by simp only;omega,hst2,leN [(3000060,3000109)] ?_ ?_ (by simp[q0f]) (by simp only[go_sem])⟩
  ·simp only[go_sem];simp
  ·simp only[go_sem,hma];simp[Part.row]
 ·simp only[eq_false h,go_sem]
  have:i=(pieces inn).length:=by omega
  subst this
  with_reducible repeat' (first|refine br ?_ ?_<;>intro h e<;>(try simp only[e,go_sem])<;>clear e|rw[q00 (by omega)]|refine sd ?_<;>try simp only[go_sem]|fail)
  have hfin:=hfin m ts d hI
  refine q1h (.tup [.own 0 m.length,.agg [.str inn,.sl 2 ((s.parts++q0w ((pieces inn).drop s.parts.length) ts).map Part.row)],.bool true]) [.arr 132 3 (m.map Pair.row)] [] ?_ ⟨by rw[hfin],by rw[hfin],rfl⟩ ?_ (by simp[q11]) (by simp only[go_sem])
  ·simp only[go_sem]
   have:=hI.ht
   have:=q2w ((pieces inn).drop s.parts.length) ts (by rw[List.length_drop];omega)
   first|done|(simp;omega)
  ·simp only[go_sem]
def qze (m:List Pair) (s:Strm) (n:Int) (t:B) (out:Bool) (r:V) (o:List Hs):Prop:=putA m s n t out r o∨putB m s n t out r o
theorem c179T (m:List Pair) (s:Strm) (n:Int) (t:B) (h:PutOk m s n t):FnP Tryz.prog G 179 1 [.arr 132 3 (m.map Pair.row)] [.own 0 m.length,.agg [.str s.inn,.sl 2 (s.parts.map Part.row)],.int .i64 n,.str t,.bool true] (qze m s n t true):=by
 refine mP qwn Tryz.ntmps179 ?_ ?_
 ·cases hb:(q0a s.inn n t).2
  ·exact⟨_,_,.inl ⟨by rw[qfk _ _ _ _ _ hb],rfl,rfl⟩⟩
  ·exact⟨_,_,.inr ⟨by simp[put,hb],rfl,rfl⟩⟩
 obtain⟨hm,hs,hn,ht⟩:=h
 obtain⟨hp,hml⟩:=q0b hm
 obtain⟨s1,s2,s3⟩:=q0t hs
 have keep:∀l mm ok,put m s n t true=(m,s,ok)→q0e l 10=.own 0 m.length→q0e l 11=.pv 3000011 0→q0e l 12=.bool ok→q01 mm 0=.arr 132 3 (m.map Pair.row)→q01 mm 3000011=.var 128 [.str s.inn,.sl 2 (s.parts.map Part.row)] →
  q6f [.t 10,.cell 11 2 true,.t 12] 1 (qze m s n t true) .ret ⟨q0e l,q01 mm⟩:=λl mm ok h1 h2 h3 h4 h5 h6=>by
  refine q1h (.tup [.own 0 m.length,.agg [.str (put m s n t true).2.1.inn,.sl 2 ((put m s n t true).2.1.parts.map Part.row)],.bool (put m s n t true).2.2]) [.arr 132 3 (m.map Pair.row)] [] ?_ (.inl ⟨by rw[h1],rfl,rfl⟩) ?_ (by simp[q11]) (by simp only[go_sem])
  ·simp only[go_sem,h1,h2,h3,h4,h6]
  ·simp only[go_sem,h5]
 simp only[qqd,go_sem]
 with_reducible repeat' (first|rw[q00 (by omega)];try simp only[go_sem]|refine br ?_ ?_<;>intro h e<;>(try simp only[e,go_sem])<;>clear e|refine sd ?_<;>try simp only[go_sem]|fail)
 ·exact keep _ _ _ (qfk _ _ _ _ _ (by unfold q0a;rw[if_pos (by simp;omega)])) (by simp only[go_sem]) (by simp only[go_sem]) (by simp only[go_sem]) (by simp only[go_sem]) (by simp only[go_sem])
 ·exact keep _ _ _ (qfk _ _ _ _ _ (by unfold q0a;rw[if_pos (by simp;omega)])) (by simp only[go_sem]) (by simp only[go_sem]) (by simp only[go_sem]) (by simp only[go_sem]) (by simp only[go_sem])
 ·exact keep _ _ _ (quq _ _ _ _ hs (by omega) (by omega)) (by simp only[go_sem]) (by simp only[go_sem]) (by simp only[go_sem]) (by simp only[go_sem]) (by simp only[go_sem])
 have hb:q0a s.inn n t=(s.inn++t.drop (s.inn.length - n).toNat,true):=by
  unfold q0a;rw[if_neg (by simp;omega),if_neg (by omega)]
 have hbp:(q0a s.inn n t).2=true:=by rw[hb]
 have hfin:∀mm ts d,PutI m s (q0a s.inn n t).1 true mm ts (pieces (q0a s.inn n t).1).length d→_:=λmm ts d h=>qev hbp h
 have h0:=PutI.init (x:=t.drop (s.inn.length - n).toNat) (out:=true) hp hs
 rw[hb] at hfin
 refine pureG (by simp;omega) ?_
 simp only[List.take_length,go_sem]
 generalize hin:s.inn++t.drop (s.inn.length - n).toNat=inn at *
 have hil:inn.length≤80:=by rw[←hin];simp;omega
 have hpl:=q3c inn
 with_reducible repeat' (first|rw[q00 (by omega)];try simp only[go_sem]|refine br ?_ ?_<;>intro h e<;>(try simp only[e,go_sem])<;>clear e|refine sd ?_<;>try simp only[go_sem]|fail)
 refine q0m (c198 s ⟨s1,s2,s3⟩) rfl rfl ?_
 simp only[go_sem]
 with_reducible repeat' (first|rw[q00 (by omega)];try simp only[go_sem]|refine br ?_ ?_<;>intro h e<;>(try simp only[e,go_sem])<;>clear e|refine sd ?_<;>try simp only[go_sem]|(first|refine cr (c153 ..) ?_)<;>try simp only[go_sem]|fail)
 refine q0d (λa:List Pair×List B×Nat×Nat=>⟨q0e [(0,.own 5000 a.1.length),(4,.bool true),(11,.pv 3000011 0),(14,.str inn),(15,.int .i64 (a.2.2.2:Int)),(16,.sl 4 ((pieces inn).map Pc.row)),(17,.pv 3000017 0),(18,.int .i64 (a.2.2.1:Int))],
  q01 [(0,.dead),(5000,.arr 132 3 (a.1.map Pair.row)),(3000011,.var 128 [.str [],.nils]),(3000017,.var 128 [.str inn,.own 3000060 a.2.2.1]),(3000060,.arr 167 2 ((s.parts++q0w ((pieces inn).drop s.parts.length) a.2.1).map Part.row))]⟩) (λa=>(pieces inn).length - a.2.2.1)
  (λa=>PutI m s inn true a.1 a.2.1 a.2.2.1 a.2.2.2) (m,[],s.parts.length,doneP s.parts) ?_ h0 ?_
 ·refine leN' [(5000,0)] (by simp only[go_sem];first|done|rfl) ?_ (by simp[qau,q0f,qe2,qep,qgx]) (by simp only[go_sem])
  simp only[go_sem];simp[q8g]
 intro⟨mm,ts,i,d⟩ hI
 simp only at hI
 simp only[go_sem]
 have hi:=hI.hi
 by_cases h:(i:Int)<(pieces inn).length
 ·obtain⟨hst1,hst2⟩:=hI.step (by omega)
  have hml2:=q2w ((pieces inn).drop s.parts.length) ts (by have:=hI.ht;rw[List.length_drop];omega)
  have hml3:(s.parts++q0w ((pieces inn).drop s.parts.length) ts).length=i:=by rw[zA,hml2];exact hI.ht
  have hma:=q5y ((pieces inn).drop s.parts.length) ts (q0u mm ((pieces inn).getD i default) ((inn.drop d).take ((pieces inn).getD i default).size)).2 (by have:=hI.ht;rw[List.length_drop];omega)
  have hgq:((pieces inn).drop s.parts.length).getD ts.length default=(pieces inn).getD i default:=by
   simp only[List.getD_eq_getElem?_getD,List.getElem?_drop,hI.ht]
  rw[hgq] at hma
  have hht:=hI.ht
  simp only[turn,cond_true] at hst2
  have hmml:=hI.ml
  obtain⟨q,hq⟩:∃q,(pieces inn).getD i default=q:=⟨_,rfl⟩
  rw[hq] at hst1 hst2 hma
  simp only[eq_true h,go_sem]
  refine effG (by omega) ?_
  simp only[go_sem,hq]
  with_reducible repeat' (first|rw[q00 (by omega)];try simp only[go_sem,hq]|refine br ?_ ?_<;>intro h e<;>(try simp only[e,go_sem,hq])<;>clear e|refine sd ?_<;>try simp only[go_sem,hq]|fail)
  rw[q8k]
  refine q1z (c199 mm q.size q.named q.e.a q.e.p ((inn.drop d).take q.size) hI.hp (by omega)) [5000] [] 89 1 (by simp only[go_sem];first|done|simp) (by simp only[go_sem];first|done|simp) (by simp) (by simp) (by rintro _ _ ⟨rfl,rfl⟩;simp) (by intro i hi;obtain rfl:i=0:=(by omega);simp only[go_sem]) ?_
  rintro _ _ ⟨rfl,rfl⟩
  simp only[go_sem,hq]
  with_reducible repeat' (first|rw[q00 (by omega)];try simp only[go_sem,hq]|refine br ?_ ?_<;>intro h e<;>(try simp only[e,go_sem,hq])<;>clear e|refine sd ?_<;>try simp only[go_sem,hq]|fail)
  refine⟨((q0u mm q ((inn.drop d).take q.size)).1,ts++[(q0u mm q ((inn.drop d).take q.size)).2],i+1,d+q.size),by simp only;omega,hst2,leN [(5000,108900),(3000060,3000109)] ?_ ?_ (by simp[q0f]) (by simp only[go_sem])⟩
  ·simp only[go_sem];simp
  ·simp only[go_sem,hma];simp[Part.row]
 ·simp only[eq_false h,go_sem]
  have:i=(pieces inn).length:=by omega
  subst this
  with_reducible repeat' (first|refine br ?_ ?_<;>intro h e<;>(try simp only[e,go_sem])<;>clear e|rw[q00 (by omega)]|refine sd ?_<;>try simp only[go_sem]|fail)
  have hfin:=hfin mm ts d hI
  refine q1h (.tup [.own 1 mm.length,.agg [.str inn,.sl 2 ((s.parts++q0w ((pieces inn).drop s.parts.length) ts).map Part.row)],.bool true]) [.dead,.arr 132 3 (mm.map Pair.row)] [(1,5000)] ?_ (.inr ⟨by rw[hfin],by rw[hfin],by rw[hfin]⟩) ?_ (by simp[q11,q0f]) (by simp only[go_sem])
  ·simp only[go_sem]
   have:=hI.ht
   have:=q2w ((pieces inn).drop s.parts.length) ts (by rw[List.length_drop];omega)
   first|done|(simp;omega)
  ·simp only[go_sem]
def qv3:IC:=sR [oP 3 (.box 128 (.t 0)),oP 4 (.box 128 (.t 1)),oP 5 (.box 54 (.t 2)),oP 6 (.alloc 54 [i0,i0,i0,i0,i0,i0,s0]),oP 7 (.mv cF)] (sR [lA 10 2 4,fD 11 5 5,lD 12 1 11,oP 13 (.call 201 [.t 10,.t 12]),mV 8 13] (sR [lA 14 2 4,fD 15 5 5,lD 16 1 15,fD 17 6 5,lD 18 1 17,oP 19 (.lens (.t 18)),bN 20 .add 16 19,fD 21 0 4,lD 22 1 21,oP 23 (.lens (.t 22)),oP 24 (.mn (.t 20) (.t 23)),oP 25 (.call 201 [.t 14,.t 24]),mV 9 25] (.seq (sR [fD 26 0 4,lD 27 1 26,oP 28 (.lens (.t 27)),fD 29 0 3,lD 30 1 29,oP 31 (.lens (.t 30)),bN 32 .gtr 28 31] (cD 32 (.reg [lA 33 2 4,oP 34 (.call 177 [.t 33]),oP 35 (.lens (.t 34)),mV 9 35]) .skip)) (.seq (sR [mV 36 8,mV 37 9,bN 38 .geq 36 37] (cD 38 (sR [oP 39 (.build [i0,i0,i0,i0,i0,i0,s0] []),nP (.sto 7 (.t 6) (.t 39)),oP 7 (.mv cF)] .ret) .skip)) (sR [mV 40 8,fD 41 5 5,nP (.sto 1 (.t 41) (.t 40))] (sR [lA 42 2 4,oP 43 (.call 177 [.t 42]),mV 44 8,mV 45 9,oP 46 (.sls (.t 43) (some (.t 44)) (some (.t 45))),fD 47 6 5,nP (.sto 1 (.t 47) (.t 46))] (.seq (.drw [0,0,2,6,14,1,63] [(0,lA 48 7 5),(1,fD 49 6 5),(2,lD 50 1 49),(3,oP 51 (.lens (.t 50))),(4,oP 52 (.bin .leq (.t 51) (cI 40))),(5,nP (.sto 7 (.t 6) (.t 48))),(6,mV 7 52)]) .ret)))))))
theorem dg180:Dg Tryz.prog 180 Tryz.f180 qv3 [(.cell 6 7 true),(.t 7)]:=⟨Tryz.func180,by kernel_rfl,by kernel_rfl⟩
theorem c180 (was is:Strm) (p:Pk) (h:StrB is) (hw:was.inn.length≤2000000) (hp : -10000≤p.at_∧p.at_≤9000) (ht:p.text.length≤1000) :
 FnR Tryz.prog G 180 [.agg [.str was.inn,.sl 2 (was.parts.map Part.row)],.agg [.str is.inn,.sl 2 (is.parts.map Part.row)],.agg [.int .i64 p.kind,.int .i64 p.frm.a,.int .i64 p.frm.p,.int .i64 p.to.a,.int .i64 p.to.p,.int .i64 p.at_,.str p.text]]
  (.tup [.agg (Pk.row (qa7 was is p).1),.bool (qa7 was is p).2]):=by
 refine mF dg180 Tryz.ntmps180 ?_
 have hso:=q4q h
 have h1:=q4p (l:=is.parts) p.at_
 have h2:=qf1 was is p
 have hil:=h.1
 have f1:=c201 is p.at_ h (by omega)
 have f2:=c201 is (min (p.at_+p.text.length) is.inn.length) h (by omega)
 have f3:=c177 is h
 have e1:∀a b,q1l is.parts p.at_=a→toR was is p=b→qa7 was is p=if a≥b then(.zero,false)
  else({ p with at_:=a,text:=((sOut is).take b.toNat).drop a.toNat },decide ((((sOut is).take b.toNat).drop a.toNat).length≤40)):=λa b ha hb=>by subst ha;subst hb;rfl
 simp only[qv3,go_sem]
 generalize hfr:q1l is.parts p.at_=fr at *
 by_cases hl:was.inn.length<is.inn.length
 ·have hto:toR was is p=(sOut is).length:=by simp[toR,hl]
  have e1:=e1 _ _ rfl hto
  rw[hto] at h2
  generalize hfr2:q1l is.parts (min (p.at_+p.text.length) is.inn.length)=fr2 at *
  with_reducible repeat' (first|refine br ?_ ?_<;>intro h e<;>(try simp only[e,go_sem])<;>clear e|rw[q00 (by omega)]|refine sd ?_<;>try simp only[go_sem]|(first|refine cr (f1 ..) ?_|refine cr (f2 ..) ?_|refine cr (f3 ..) ?_)<;>try simp only[go_sem]|fail)
  all_goals first
   | (exfalso;omega)
   | (rw[e1,if_pos (by omega)];simp[Pk.zero,E.zero];done)
   | (rw[e1,if_neg (by omega)];simp;done)
   | (rw[e1,if_neg (by omega)];simp;omega)
 ·have hto:toR was is p=q1l is.parts (min (p.at_+p.text.length) is.inn.length):=by simp[toR,hl]
  have e1:=e1 _ _ rfl hto
  rw[hto] at h2
  generalize hfr2:q1l is.parts (min (p.at_+p.text.length) is.inn.length)=fr2 at *
  with_reducible repeat' (first|refine br ?_ ?_<;>intro h e<;>(try simp only[e,go_sem])<;>clear e|rw[q00 (by omega)]|refine sd ?_<;>try simp only[go_sem]|(first|refine cr (f1 ..) ?_|refine cr (f2 ..) ?_|refine cr (f3 ..) ?_)<;>try simp only[go_sem]|fail)
  all_goals first
   | (exfalso;omega)
   | (rw[e1,if_pos (by omega)];simp[Pk.zero,E.zero];done)
   | (rw[e1,if_neg (by omega)];simp;done)
   | (rw[e1,if_neg (by omega)];simp;omega)
def z0A (c:Nat):Hs→V
 | .arr _ sz _=>.sl sz []
 | _=>.own c 0
theorem qgl (h:Nat→Hs) (c:Nat):z0V h (.own c 0)=z0A c (h c):=by cases hh:h c<;>simp[z0V,z0A,hh]
theorem qhv (c ty sz:Nat) (rows:List (List V)):z0A c (.arr ty sz rows)=.sl sz []:=of_eq_true (eq_self _)
theorem qip (h:Nat→Hs) (k n):z0V h (.int k n)=.int k n:=of_eq_true (eq_self _)
theorem qho (h:Nat→Hs) (s):z0V h (.str s)=.str s:=of_eq_true (eq_self _)
theorem qix (c:Nat):z0N (.own c 0)=[c]:=of_eq_true (eq_self _)
theorem qiz (k n):z0N (.int k n)=[]:=of_eq_true (eq_self _)
theorem qha (s):z0N (.str s)=[]:=of_eq_true (eq_self _)
theorem qmz {o:Option Nat} (h:0≤ixI o):∃k,o=some k:=by
 cases o with
 | none=>simp[ixI] at h
 | some k=>exact⟨k,rfl⟩
theorem qlg {o:Option Nat} (h:ixI o<0):o=none:=qnv.1 h
def qxi (d:Door) (i o:E) (r:V) (out:List Hs):Prop :=
 r=.tup [.agg [.own 0 (q20 d i o).1.map.length,.own 1 (q20 d i o).1.flows.length],.int .i64 (q20 d i o).2.1,.bool (q20 d i o).2.2]∧out=[.arr 132 3 ((q20 d i o).1.map.map Pair.row),.arr 130 8 ((q20 d i o).1.flows.map Flw.row)]
def qvk:IC:=sR [oP 3 (.box 35 (.t 0)),oP 4 (.box 52 (.t 1)),oP 5 (.box 52 (.t 2)),oP 6 (.alloc 35 [.nils,.nils]),oP 7 (.mv (.c i0)),oP 8 (.mv cF)] (sR [fD 13 1 3,lD 14 1 13,lA 15 2 4,lA 16 2 5,oP 17 (.call 94 [.t 14,.t 15,.t 16]),mV 9 17] (.seq (sR [mV 18 9,oP 19 (.bin .geq (.t 18) (.c i0))] (cD 19 (sR [lA 20 2 3,mV 21 9,nP (.sto 2 (.t 6) (.t 20)),mV 7 21,oP 8 (.mv cT)] .ret) .skip)) (sR [fD 23 0 3,lD 24 1 23,lA 25 2 4,oP 26 (.call 176 [.t 24,.t 25]),mV 22 26,eX 27 22 0,eX 28 22 1,eX 29 22 2,mV 10 27,mV 11 28,mV 12 29] (.seq (sR [mV 30 12,oP 31 (.un .not (.t 30)),mV 32 31,gF 33 32 (.fad 1 (.t 3)),gF 34 32 (.ld 1 false (.t 33)),gF 35 32 (.len (.t 34)),gF 36 32 (.bin .geq (.t 35) (cI 4)),pT 37 32 36] (cD 37 (sR [lA 38 2 3,nP (.sto 2 (.t 6) (.t 38)),oP 7 (.mv (.c i0)),oP 8 (.mv cF)] .ret) .skip)) (sR [mV 39 10,fD 40 0 3,nP (.sto 1 (.t 40) (.t 39))] (sR [fD 41 1 3,lD 42 1 41,lA 43 2 4,lA 44 2 5,oP 45 (.bsl 167 2 []),oP 46 (.build [s0,.nils] [(1,(1,.t 45))]),oP 47 (.bsl 167 2 []),oP 48 (.build [s0,.nils] [(1,(1,.t 47))]),oP 49 (.build [i0,i0,i0,i0,s0,.nils,s0,.nils] [(0,(2,.t 43)),(2,(2,.t 44)),(4,(2,.t 46)),(6,(2,.t 48))]),oP 50 (.bsl 130 8 [.t 49]),oP 51 (.app 130 8 (.t 42) (.t 50)),fD 52 1 3,nP (.sto 1 (.t 52) (.t 51))] (.seq (.drw [0,0,2,6,14,1,63,127] [(0,lA 53 2 3),(1,fD 54 1 3),(2,lD 55 1 54),(3,oP 56 (.len (.t 55))),(4,oP 57 (.bin .sub (.t 56) (cI 1))),(5,nP (.sto 2 (.t 6) (.t 53))),(6,mV 7 57),(7,oP 8 (.mv cT))]) .ret)))))))
theorem dg175:Dg Tryz.prog 175 Tryz.f175 qvk [(.cell 6 2 true),(.t 7),(.t 8)]:=⟨Tryz.func175,by kernel_rfl,by kernel_rfl⟩
theorem c175 (d:Door) (i o:E) (hm:mapOk d.map=true) (hf:d.flows.length≤4):FnP Tryz.prog G 175 0 [.arr 132 3 (d.map.map Pair.row),.arr 130 8 (d.flows.map Flw.row)]
 [.agg [.own 0 d.map.length,.own 1 d.flows.length],.agg [.int .i64 i.a,.int .i64 i.p],.agg [.int .i64 o.a,.int .i64 o.p]] (qxi d i o):=by
 refine mP dg175 Tryz.ntmps175 ⟨_,_,rfl,rfl⟩ ?_
 obtain⟨hp,hml⟩:=q0b hm
 have keep:∀l mm k ok,q20 d i o=(d,k,ok)→q0e l 6=.pv 3000006 0→q0e l 7=.int .i64 (k:Nat)→q0e l 8=.bool ok→q01 mm 3000006=.var 35 [.own 0 d.map.length,.own 1 d.flows.length]→q01 mm 0=.arr 132 3 (d.map.map Pair.row)→q01 mm 1=.arr 130 8 (d.flows.map Flw.row) →
  q6f [.cell 6 2 true,.t 7,.t 8] 0 (qxi d i o) .ret ⟨q0e l,q01 mm⟩:=λl mm k ok h1 h2 h3 h4 h5 h6 h7=>by
  refine q1h (.tup [.agg [.own 0 d.map.length,.own 1 d.flows.length],.int .i64 (k:Nat),.bool ok]) [.arr 132 3 (d.map.map Pair.row),.arr 130 8 (d.flows.map Flw.row)] [] ?_ ⟨by rw[h1],by rw[h1]⟩ ?_ (by simp[q11,q0f]) (by simp only[go_sem])
  ·simp only[go_sem,h2,h3,h4,h5]
  ·simp only[go_sem,h6,h7]
 simp only[qvk,go_sem]
 refine q34 (c94 d.flows i o (by omega)) [1] false (by simp only[go_sem];first|done|simp[E.row,Pc.row,Pair.row,Part.row,Flw.row,Pk.row,Conv.row]) (by simp only[List.mem_singleton];rintro c rfl;rfl) rfl (.inr rfl) ?_
 simp only[go_sem]
 with_reducible repeat' (first|refine br ?_ ?_<;>intro h e<;>(try simp only[e,go_sem])<;>clear e|rw[q00 (by omega)]|refine sd ?_<;>try simp only[go_sem]|fail)
 ·obtain⟨k,hk⟩:=qmz h
  rw[hk]
  exact keep _ _ k true (q8e hk) (by simp only[go_sem]) (by simp only[go_sem];rfl) (by simp only[go_sem]) (by simp only[go_sem]) (by simp only[go_sem]) (by simp only[go_sem])
 have hno:=qlg (by omega:ixI (q0y d.flows i o)<0)
 have hp0:∀p∈d.map,p.port≠0:=λp h=>(hp p h).1
 by_cases hfu:4≤d.flows.length∧portOf d.map i=0∧d.map.length<8
 ·obtain⟨h4,h0,h8⟩:=hfu
  refine q1k (f176 d.map i.a i.p h8 h0 hp) [0] [] true 26 1 (by simp only[go_sem];first|done|simp) (by simp only[go_sem];first|done|simp) (by simp) (by simp) (by simp) ?_ ?_ ?_
  ·rintro _ _ ⟨rfl,rfl⟩
   exact⟨by simp,by simp,.inl rfl,λi hi=>by obtain rfl:i=0:=(by omega);simp[chH,q0h]⟩
  ·intro i hi;obtain rfl:i=0:=(by omega);simp only[go_sem]
  rintro _ _ ⟨rfl,rfl⟩
  simp only[go_sem]
  with_reducible repeat' (first|refine br ?_ ?_<;>intro h e<;>(try simp only[e,go_sem])<;>clear e|rw[q00 (by omega)]|refine sd ?_<;>try simp only[go_sem]|fail)
  ·exact keep _ _ 0 false (q6x hno (by omega)) (by simp only[go_sem]) (by simp only[go_sem];first|done|rfl) (by simp only[go_sem]) (by simp only[go_sem]) (by simp only[go_sem]) (by simp only[go_sem])
  all_goals omega
 refine q1k (c176 d.map i.a i.p hp (by omega)) [0] [] true 26 2 (by simp only[go_sem];first|done|simp) (by simp only[go_sem];first|done|simp) (by simp) (by simp) (by simp) ?_ ?_ ?_
 ·rintro res out (⟨_,rfl,rfl⟩|⟨rfl,rfl,_⟩)
  ·exact⟨by simp,by simp,.inl rfl,λi hi=>by obtain rfl:i=0:=(by omega);simp[chH,q0h]⟩
  ·exact⟨by simp,by simp,.inl rfl,λi hi=>by obtain rfl:i=0:=(by omega);simp[chH,q0h]⟩
 ·intro i hi
  have:i=0∨i=1:=by omega
  rcases this with rfl|rfl<;>simp only[go_sem]
 ·rintro res out (⟨h1,rfl,rfl⟩|⟨rfl,rfl,h3,hg⟩)
  ·simp only[go_sem]
   cases hok:(mOut d.map i).2.2<;>simp only[go_sem]
   ·with_reducible repeat' (first|refine br ?_ ?_<;>intro h e<;>(try simp only[e,go_sem])<;>clear e|rw[q00 (by omega)]|refine sd ?_<;>try simp only[go_sem]|fail)
    exact keep _ _ 0 false (qb9 hno hok) (by simp only[go_sem]) (by simp only[go_sem];first|done|rfl) (by simp only[go_sem]) (by simp only[go_sem]) (by simp only[go_sem]) (by simp only[go_sem])
   ·with_reducible repeat' (first|refine br ?_ ?_<;>intro h e<;>(try simp only[e,go_sem])<;>clear e|rw[q00 (by omega)]|refine sd ?_<;>try simp only[go_sem]|fail)
    ·exact keep _ _ 0 false (q6x hno (by omega)) (by simp only[go_sem]) (by simp only[go_sem];first|done|rfl) (by simp only[go_sem]) (by simp only[go_sem]) (by simp only[go_sem]) (by simp only[go_sem])
    have hn:=q6q hno hok (by omega)
    simp only[Bool.true_and,Bool.false_and,qgl,qhv,qip,qho,qix,qiz,qha,List.flatMap_cons,List.flatMap_nil,go_sem]
    with_reducible repeat' (first|refine br ?_ ?_<;>intro h e<;>(try simp only[e,go_sem])<;>clear e|rw[q00 (by omega)]|refine sd ?_<;>try simp only[go_sem]|fail)
    refine q1h (.tup [.agg [.own 0 d.map.length,.own 1 (d.flows.length+1)],.int .i64 (d.flows.length:Nat),.bool true]) [.arr 132 3 (d.map.map Pair.row),.arr 130 8 ((d.flows++[Flw.mk i o .zero .zero]).map Flw.row)] [(1,3000051)] ?_ ⟨by rw[hn,h1];simp,by rw[hn,h1]⟩ ?_ (by simp[q11,q0f]) (by simp only[go_sem])
    ·simp only[go_sem];first|done|omega
    ·simp only[go_sem];simp[Flw.row,Strm.zero]
  ·have hgr:portOf d.map i=0∧d.map.length<8:=qi5 hp0 hg
   have hn:=q6q hno h3 (by omega)
   simp only[go_sem,h3]
   with_reducible repeat' (first|refine br ?_ ?_<;>intro h e<;>(try simp only[e,go_sem])<;>clear e|rw[q00 (by omega)]|refine sd ?_<;>try simp only[go_sem]|fail)
   ·omega
   simp only[Bool.true_and,Bool.false_and,qgl,qhv,qip,qho,qix,qiz,qha,List.flatMap_cons,List.flatMap_nil,go_sem]
   with_reducible repeat' (first|refine br ?_ ?_<;>intro h e<;>(try simp only[e,go_sem])<;>clear e|rw[q00 (by omega)]|refine sd ?_<;>try simp only[go_sem]|fail)
   refine q1h (.tup [.agg [.own 0 (mOut d.map i).1.length,.own 1 (d.flows.length+1)],.int .i64 (d.flows.length:Nat),.bool true]) [.arr 132 3 ((mOut d.map i).1.map Pair.row),.arr 130 8 ((d.flows++[Flw.mk i o .zero .zero]).map Flw.row)] [(0,102601),(1,3000051)] ?_ ⟨by rw[hn];simp,by rw[hn]⟩ ?_ (by simp[q11,q0f]) (by simp only[go_sem])
   ·simp only[go_sem];first|done|omega
   ·simp only[go_sem];simp[Flw.row,Strm.zero]
def qmw (x:Door×Option Pk) (r:V) (out:List Hs):Prop :=
 r=.tup [.agg [.own 0 x.1.map.length,.own 1 x.1.flows.length],.agg (Pk.row (x.2.getD .zero)),.bool x.2.isSome]∧out=[.arr 132 3 (x.1.map.map Pair.row),.arr 130 8 (x.1.flows.map Flw.row)]
theorem q1t {x:Door×Option Pk} {l:List (Nat×V)} {mm:List (Nat×Hs)} {d:Door} {q:Option Pk} (n0 n1:Nat) (hx:x=(d,q)) (h4:q0e l 4=.pv 3000004 0) (h5:q0e l 5=.pv 3000005 0) (h6:q0e l 6=.bool q.isSome)
 (m4:q01 mm 3000004=.var 35 [.own n0 d.map.length,.own n1 d.flows.length]) (m5:q01 mm 3000005=.var 54 (Pk.row (q.getD .zero))) (m0:q01 mm n0=.arr 132 3 (d.map.map Pair.row)) (m1:q01 mm n1=.arr 130 8 (d.flows.map Flw.row)) (hne:n0≠n1) :
 q6f [.cell 4 2 true,.cell 5 7 true,.t 6] 0 (qmw x) .ret ⟨q0e l,q01 mm⟩:=by
 subst hx
 refine q1h (.tup [.agg [.own 0 d.map.length,.own 1 d.flows.length],.agg (Pk.row (q.getD .zero)),.bool q.isSome]) [.arr 132 3 (d.map.map Pair.row),.arr 130 8 (d.flows.map Flw.row)] [(0,n0),(1,n1)] ?_ ⟨rfl,rfl⟩ ?_ (by simp[q11,q0f,hne]) (by simp only[go_sem])
 ·simp only[go_sem,h4,h5,h6,m4,m5]
 ·simp only[go_sem,m0,m1]
def qv7:IC:=sR [oP 2 (.box 35 (.t 0)),oP 3 (.box 54 (.t 1)),oP 4 (.alloc 35 [.nils,.nils]),oP 5 (.alloc 54 [i0,i0,i0,i0,i0,i0,s0]),oP 6 (.mv cF)] (sR [lA 18 2 2,fD 19 1 3,lA 20 2 19,fD 21 3 3,lA 22 2 21,oP 23 (.call 175 [.t 18,.t 20,.t 22]),mV 17 23,eX 24 17 0,eX 25 17 1,eX 26 17 2,nP (.sto 2 (.t 2) (.t 24)),mV 7 25,mV 8 26] (.seq (sR [mV 27 8,oP 28 (.un .not (.t 27))] (cD 28 (sR [lA 29 2 2,oP 30 (.build [i0,i0,i0,i0,i0,i0,s0] []),nP (.sto 2 (.t 4) (.t 29)),nP (.sto 7 (.t 5) (.t 30)),oP 6 (.mv cF)] .ret) .skip)) (sR [fD 32 0 2,lD 33 1 32,fD 34 1 3,lA 35 2 34,oP 36 (.call 176 [.t 33,.t 35]),mV 31 36,eX 37 31 0,eX 38 31 1,eX 39 31 2,mV 9 37,mV 10 38,mV 11 39] (sR [mV 40 10,oP 41 (.build [i0,i0] [(0,(1,cI 9)),(1,(1,.t 40))]),oP 12 (.alloc 52 [i0,i0]),nP (.sto 2 (.t 12) (.t 41))] (sR [fD 42 1 2,lD 43 1 42,mV 44 7,oP 45 (.iad 8 (.t 43) (.t 44)),lA 46 8 45,oP 13 (.alloc 130 [i0,i0,i0,i0,s0,.nils,s0,.nils]),nP (.sto 8 (.t 13) (.t 46))] (.seq (sR [fD 47 0 3,lD 48 1 47,oP 49 (.bin .eql (.t 48) (cI 2))] (cD 49 (.seq (.seq (.drw [0,1,0,4,12,28,63] [(0,fD 50 5 3),(1,lD 51 1 50),(2,fD 52 6 13),(3,lA 53 2 52),(4,oP 54 (.call 177 [.t 53])),(5,oP 55 (.lens (.t 54))),(6,bN 56 .gtr 51 55)]) (cD 56 (sR [lA 57 2 2,oP 58 (.build [i0,i0,i0,i0,i0,i0,s0] []),nP (.sto 2 (.t 4) (.t 57)),nP (.sto 7 (.t 5) (.t 58)),oP 6 (.mv cF)] .ret) .skip)) (.seq (.drw [0,0,0,4,0,16,0,64,240,510,497,2047,4095] [(0,lA 59 2 2),(1,lA 60 2 12),(2,fD 61 3 3),(3,lA 62 2 61),(4,fD 63 6 13),(5,lA 64 2 63),(6,fD 65 5 3),(7,lD 66 1 65),(8,oP 67 (.call 178 [.t 64,.t 66])),(9,oP 68 (.build [i0,i0,i0,i0,i0,i0,s0] [(0,(1,cI 2)),(1,(2,.t 60)),(3,(2,.t 62)),(5,(1,.t 67))])),(10,nP (.sto 2 (.t 4) (.t 59))),(11,nP (.sto 7 (.t 5) (.t 68))),(12,oP 6 (.mv cT))]) .ret)) .skip)) (sR [fD 70 0 2,lD 71 1 70,fD 72 4 13,lA 73 2 72,fD 74 5 3,lD 75 1 74,fD 76 6 3,lD 77 1 76,oP 78 (.call 179 [.t 71,.t 73,.t 75,.t 77,cT]),mV 69 78,eX 79 69 0,eX 80 69 1,eX 81 69 2,oP 15 (.alloc 128 [s0,.nils]),mV 14 79,nP (.sto 2 (.t 15) (.t 80)),mV 8 81] (.seq (sR [mV 82 8,oP 83 (.un .not (.t 82))] (cD 83 (sR [lA 84 2 2,oP 85 (.build [i0,i0,i0,i0,i0,i0,s0] []),nP (.sto 2 (.t 4) (.t 84)),nP (.sto 7 (.t 5) (.t 85)),oP 6 (.mv cF)] .ret) .skip)) (sR [fD 87 4 13,lA 88 2 87,lA 89 2 15,lA 90 7 3,oP 91 (.call 180 [.t 88,.t 89,.t 90]),mV 86 91,eX 92 86 0,eX 93 86 1,oP 16 (.alloc 54 [i0,i0,i0,i0,i0,i0,s0]),nP (.sto 7 (.t 16) (.t 92)),mV 8 93] (sR [lA 94 2 15,fD 95 4 13,nP (.sto 2 (.t 95) (.t 94))] (sR [mV 96 14,fD 97 0 2,nP (.sto 1 (.t 97) (.t 96))] (sR [fD 98 1 2,lD 99 1 98,mV 100 7,lA 101 8 13,oP 102 (.iad 8 (.t 99) (.t 100)),nP (.sto 8 (.t 102) (.t 101))] (.seq (sR [mV 103 8,oP 104 (.un .not (.t 103))] (cD 104 (sR [lA 105 2 2,oP 106 (.build [i0,i0,i0,i0,i0,i0,s0] []),nP (.sto 2 (.t 4) (.t 105)),nP (.sto 7 (.t 5) (.t 106)),oP 6 (.mv cF)] .ret) .skip)) (sR [lA 107 2 12,fD 108 1 16,nP (.sto 2 (.t 108) (.t 107))] (.seq (.drw [0,0,1,7,15] [(0,lA 109 2 2),(1,lA 110 7 16),(2,nP (.sto 2 (.t 4) (.t 109))),(3,nP (.sto 7 (.t 5) (.t 110))),(4,oP 6 (.mv cT))]) .ret)))))))))))))))
theorem dg154:Dg Tryz.prog 154 Tryz.f154 qv7 [(.cell 4 2 true),(.cell 5 7 true),(.t 6)]:=⟨Tryz.func154,by kernel_rfl,by kernel_rfl⟩
theorem c154 (d:Door) (p:Pk) (hd:doorOk d=true) (hl:d.flows.length≤4) (hp:PkP p) (hi:p.frm.inside=true) (ho:p.to.outside=true):FnP Tryz.prog G 154 0 [.arr 132 3 (d.map.map Pair.row),.arr 130 8 (d.flows.map Flw.row)]
 [.agg [.own 0 d.map.length,.own 1 d.flows.length],.agg [.int .i64 p.kind,.int .i64 p.frm.a,.int .i64 p.frm.p,.int .i64 p.to.a,.int .i64 p.to.p,.int .i64 p.at_,.str p.text]] (qmw (q8y d p)):=by
 refine mP dg154 Tryz.ntmps154 ⟨_,_,rfl,rfl⟩ ?_
 have hm:=(q0c.1 hd).1
 have hyes:=λok=>q86 hd hi ho ok
 have hout:=λok=>q7x (p:=p) ok (hyes ok).kl
 have hno:=λok=>qav (d:=d) (p:=p) ok
 have hno':=λok=>qlc (d:=d) (i:=p.frm) (o:=p.to) ok
 simp only[qv7,go_sem]
 refine q1z (c175 d p.frm p.to hm hl) [0,1] [] 23 2 (by simp only[go_sem];first|done|simp) (by simp only[go_sem];first|done|simp) (by simp) (by simp) (by rintro _ _ ⟨rfl,rfl⟩;simp) (by intro i hi;rcases(show i=0∨i=1 by omega) with rfl|rfl<;>simp only[go_sem]) ?_
 rintro _ _ ⟨rfl,rfl⟩
 simp only[go_sem]
 generalize hx:q20 d p.frm p.to=x at *
 obtain⟨x,k,ok⟩:=x
 simp only at hyes hout hno hno'
 cases ok<;>simp only[go_sem]
 ·refine q1t 102300 102301 (hno rfl) ?_ ?_ ?_ ?_ ?_ ?_ ?_ (by decide)<;>simp only[go_sem,hno' rfl,Option.isSome_none,Option.getD_none,Pk.zero,E.zero]
 obtain⟨x1,x2,x3,x4,x5,x6,x7,x8⟩:=hyes rfl
 rw[hout rfl]
 obtain⟨xp,xl⟩:=q0b x1
 have hmo:=q5e (λp h=>(xp p h).1) x2
 clear hyes hout hno hno'
 refine q1k (c176 x.map p.frm.a p.frm.p xp (by omega)) [102300] [] true 36 2 (by simp only[go_sem];first|done|simp) (by simp only[go_sem];first|done|simp) (by simp) (by simp) (by simp) ?_ ?_ ?_
 ·rintro res out (⟨_,rfl,rfl⟩|⟨rfl,rfl,_⟩)
  ·exact⟨by simp,by simp,.inl rfl,λi hi=>by obtain rfl:i=0:=(by omega);simp[chH,q0h]⟩
  ·exact⟨by simp,by simp,.inl rfl,λi hi=>by obtain rfl:i=0:=(by omega);simp[chH,q0h]⟩
 ·intro i hi
  have:i=0∨i=1:=by omega
  rcases this with rfl|rfl<;>simp only[go_sem]
 intro res out hoA
 obtain⟨_,rfl,rfl⟩:=hoA.resolve_right (λh3=>h3.2.2.2 (by rw[hmo]))
 simp only[go_sem,hmo]
 have hg:x.flows.getD k default=Flw.at x k:=rfl
 rw[hg] at x6 x7
 have s1:=q0t x6
 have s2:=q0t x7
 have so:=q4q s2
 have hpa:=hp.at_
 have hpl:=hp.len
 have f1:=c177 (Flw.at x k).down s2
 have f2:=c178 (Flw.at x k).down p.at_ s2 (by omega)
 generalize hpo:portOf x.map p.frm=po at *
 with_reducible repeat' (first|refine br ?_ ?_<;>intro h e<;>(try simp only[e,go_sem,q03 x4,hg])<;>clear e|rw[q00 (by omega)]|refine sd ?_<;>try simp only[go_sem,q03 x4,hg]|(first|refine cr (f1 ..) ?_|refine cr (f2 ..) ?_)<;>try simp only[go_sem,q03 x4,hg]|fail)
 ·have:q93 x k p=(x,none):=by
   simp only[q93];rw[if_pos (by assumption),if_pos (by omega)]
  refine q1t 102300 102301 this ?_ ?_ ?_ ?_ ?_ ?_ ?_ (by decide)<;>simp only[go_sem,Option.isSome_none,Option.getD_none,Pk.zero,E.zero]
 ·have:q93 x k p=(x,some ⟨2,⟨9,po⟩,p.to,q38 (Flw.at x k).down.parts p.at_,[]⟩):=by
   simp only[q93,hpo];rw[if_pos (by assumption),if_neg (by omega)]
  refine q1t 102300 102301 this ?_ ?_ ?_ ?_ ?_ ?_ ?_ (by decide)<;>simp only[go_sem,Option.isSome_some,Option.getD_some]
 have hpo2:PutOk x.map (Flw.at x k).up p.at_ p.text:=⟨x1,x6,hpa,hpl⟩
 refine q1k (c179T x.map (Flw.at x k).up p.at_ p.text hpo2) [102300] [] true 78 2 (by simp only[go_sem];first|done|simp) (by simp only[go_sem];first|done|simp) (by simp) (by simp) (by simp) ?_ ?_ ?_
 ·rintro res out (⟨_,rfl,rfl⟩|⟨_,rfl,rfl⟩)
  ·exact⟨by simp,by simp,.inl rfl,λi hi=>by obtain rfl:i=0:=(by omega);simp[chH,q0h]⟩
  ·exact⟨by simp,by simp,.inl rfl,λi hi=>by obtain rfl:i=0:=(by omega);simp[chH,q0h]⟩
 ·intro i hi
  have:i=0∨i=1:=by omega
  rcases this with rfl|rfl<;>simp only[go_sem]
 have htx:=hp.tx.resolve_left (by assumption)
 have hpk:=q7h (m:=x.map) (s:=(Flw.at x k).up) (n:=p.at_) (t:=p.text) (out:=true) x1 x6 htx hpa.1
 have hko:q93 x k p=if(put x.map (Flw.at x k).up p.at_ p.text true).2.2=false then(x,none)
  else(⟨(put x.map (Flw.at x k).up p.at_ p.text true).1,x.flows.set k { Flw.at x k with up:=(put x.map (Flw.at x k).up p.at_ p.text true).2.1 }⟩,
   (q23 (Flw.at x k).up (put x.map (Flw.at x k).up p.at_ p.text true).2.1 p).map λq=>{ q with frm:=⟨9,po⟩ }):=by
  simp only[q93,hpo];rw[if_neg (by assumption)]
 rintro res out (⟨h,rfl,rfl⟩|⟨h,rfl,rfl⟩)
 ·generalize hP:put x.map (Flw.at x k).up p.at_ p.text true=P at *
  obtain⟨m',s',ok'⟩:=P
  simp only at h hpk hko
  subst h
  cases ok'<;>simp only[go_sem]
  ·rw[if_pos rfl] at hko
   with_reducible repeat' (first|refine br ?_ ?_<;>intro h e<;>(try simp only[e,go_sem])<;>clear e|rw[q00 (by omega)]|refine sd ?_<;>try simp only[go_sem]|fail)
   refine q1t 102300 102301 hko ?_ ?_ ?_ ?_ ?_ ?_ ?_ (by decide)<;>simp only[go_sem,Option.isSome_none,Option.getD_none,Pk.zero,E.zero]
  rw[if_neg (by simp),qat] at hko
  have f3:=c180 (Flw.at x k).up s' p (q0t hpk.2) (by have:=s1.1;omega) (by omega) (by omega)
  generalize hS:qa7 (Flw.at x k).up s' p=S at *
  obtain⟨q,okq⟩:=S
  simp only at hko
  cases okq
  all_goals
   with_reducible repeat' (first|refine br ?_ ?_<;>intro h e<;>(try simp only[e,go_sem])<;>clear e|rw[q00 (by omega)]|refine sd ?_<;>try simp only[go_sem]|(first|refine cr (f3 ..) ?_)<;>try simp only[go_sem]|fail)
  ·refine q1t (d:=⟨x.map,x.flows.set k { Flw.at x k with up:=s' }⟩) (q:=none) 102300 102301 (by rw[hko];rfl) ?_ ?_ ?_ ?_ ?_ ?_ ?_ (by decide)<;>simp only[go_sem,Option.isSome_none,Option.getD_none,Pk.zero,E.zero,List.map_set,List.length_set,q03 x4,hg]
  ·refine q1t (d:=⟨x.map,x.flows.set k { Flw.at x k with up:=s' }⟩) (q:=some { q with frm:=⟨9,po⟩ }) 102300 102301 (by rw[hko];rfl) ?_ ?_ ?_ ?_ ?_ ?_ ?_ (by decide)<;>simp only[go_sem,Option.isSome_some,Option.getD_some,List.map_set,List.length_set,q03 x4,hg]
 ·generalize hP:put x.map (Flw.at x k).up p.at_ p.text true=P at *
  obtain⟨m',s',ok'⟩:=P
  simp only at h hpk hko
  subst h
  simp only[go_sem]
  rw[if_neg (by simp),qat] at hko
  have f3:=c180 (Flw.at x k).up s' p (q0t hpk.2) (by have:=s1.1;omega) (by omega) (by omega)
  generalize hS:qa7 (Flw.at x k).up s' p=S at *
  obtain⟨q,okq⟩:=S
  simp only at hko
  cases okq
  all_goals
   with_reducible repeat' (first|refine br ?_ ?_<;>intro h e<;>(try simp only[e,go_sem])<;>clear e|rw[q00 (by omega)]|refine sd ?_<;>try simp only[go_sem]|(first|refine cr (f3 ..) ?_)<;>try simp only[go_sem]|fail)
  ·refine q1t (d:=⟨m',x.flows.set k { Flw.at x k with up:=s' }⟩) (q:=none) 107801 102301 (by rw[hko];rfl) ?_ ?_ ?_ ?_ ?_ ?_ ?_ (by decide)<;>simp only[go_sem,Option.isSome_none,Option.getD_none,Pk.zero,E.zero,List.map_set,List.length_set,q03 x4,hg]
  ·refine q1t (d:=⟨m',x.flows.set k { Flw.at x k with up:=s' }⟩) (q:=some { q with frm:=⟨9,po⟩ }) 107801 102301 (by rw[hko];rfl) ?_ ?_ ?_ ?_ ?_ ?_ ?_ (by decide)<;>simp only[go_sem,Option.isSome_some,Option.getD_some,List.map_set,List.length_set,q03 x4,hg]
def qzh:IC:=sR [oP 2 (.box 35 (.t 0)),oP 3 (.box 54 (.t 1)),oP 4 (.alloc 35 [.nils,.nils]),oP 5 (.alloc 54 [i0,i0,i0,i0,i0,i0,s0]),oP 6 (.mv cF)] (sR [fD 15 0 2,lD 16 1 15,fD 17 3 3,fD 18 1 17,lD 19 1 18,oP 20 (.call 181 [.t 16,.t 19]),mV 14 20,eX 21 14 0,eX 22 14 1,oP 7 (.alloc 52 [i0,i0]),nP (.sto 2 (.t 7) (.t 21)),mV 8 22] (sR [fD 23 1 2,lD 24 1 23,lA 25 2 7,fD 26 1 3,lA 27 2 26,oP 28 (.call 94 [.t 24,.t 25,.t 27]),mV 9 28] (.seq (sR [mV 29 8,oP 30 (.un .not (.t 29)),mV 31 30,gF 32 31 (.mv (.t 9)),gF 33 31 (.bin .lss (.t 32) (.c i0)),pT 34 31 33] (cD 34 (sR [lA 35 2 2,oP 36 (.build [i0,i0,i0,i0,i0,i0,s0] []),nP (.sto 2 (.t 4) (.t 35)),nP (.sto 7 (.t 5) (.t 36)),oP 6 (.mv cF)] .ret) .skip)) (sR [fD 37 1 2,lD 38 1 37,mV 39 9,oP 40 (.iad 8 (.t 38) (.t 39)),lA 41 8 40,oP 10 (.alloc 130 [i0,i0,i0,i0,s0,.nils,s0,.nils]),nP (.sto 8 (.t 10) (.t 41))] (.seq (sR [fD 42 0 3,lD 43 1 42,oP 44 (.bin .eql (.t 43) (cI 2))] (cD 44 (.seq (.seq (.drw [0,1,0,4,12,28,63] [(0,fD 45 5 3),(1,lD 46 1 45),(2,fD 47 4 10),(3,lA 48 2 47),(4,oP 49 (.call 177 [.t 48])),(5,oP 50 (.lens (.t 49))),(6,bN 51 .gtr 46 50)]) (cD 51 (sR [lA 52 2 2,oP 53 (.build [i0,i0,i0,i0,i0,i0,s0] []),nP (.sto 2 (.t 4) (.t 52)),nP (.sto 7 (.t 5) (.t 53)),oP 6 (.mv cF)] .ret) .skip)) (.seq (.drw [0,0,2,0,0,16,0,64,240,510,497,2047,4095] [(0,lA 54 2 2),(1,fD 55 1 3),(2,lA 56 2 55),(3,lA 57 2 7),(4,fD 58 4 10),(5,lA 59 2 58),(6,fD 60 5 3),(7,lD 61 1 60),(8,oP 62 (.call 178 [.t 59,.t 61])),(9,oP 63 (.build [i0,i0,i0,i0,i0,i0,s0] [(0,(1,cI 2)),(1,(2,.t 56)),(3,(2,.t 57)),(5,(1,.t 62))])),(10,nP (.sto 2 (.t 4) (.t 54))),(11,nP (.sto 7 (.t 5) (.t 63))),(12,oP 6 (.mv cT))]) .ret)) .skip)) (sR [fD 65 0 2,lD 66 1 65,fD 67 6 10,lA 68 2 67,fD 69 5 3,lD 70 1 69,fD 71 6 3,lD 72 1 71,oP 73 (.call 179 [.t 66,.t 68,.t 70,.t 72,cF]),mV 64 73,eX 74 64 0,eX 75 64 1,eX 76 64 2,oP 12 (.alloc 128 [s0,.nils]),mV 11 74,nP (.sto 2 (.t 12) (.t 75)),mV 8 76] (.seq (sR [mV 77 8,oP 78 (.un .not (.t 77))] (cD 78 (sR [lA 79 2 2,oP 80 (.build [i0,i0,i0,i0,i0,i0,s0] []),nP (.sto 2 (.t 4) (.t 79)),nP (.sto 7 (.t 5) (.t 80)),oP 6 (.mv cF)] .ret) .skip)) (sR [fD 82 6 10,lA 83 2 82,lA 84 2 12,lA 85 7 3,oP 86 (.call 180 [.t 83,.t 84,.t 85]),mV 81 86,eX 87 81 0,eX 88 81 1,oP 13 (.alloc 54 [i0,i0,i0,i0,i0,i0,s0]),nP (.sto 7 (.t 13) (.t 87)),mV 8 88] (sR [lA 89 2 12,fD 90 6 10,nP (.sto 2 (.t 90) (.t 89))] (sR [fD 91 1 2,lD 92 1 91,mV 93 9,lA 94 8 10,oP 95 (.iad 8 (.t 92) (.t 93)),nP (.sto 8 (.t 95) (.t 94))] (.seq (sR [mV 96 8,oP 97 (.un .not (.t 96))] (cD 97 (sR [lA 98 2 2,oP 99 (.build [i0,i0,i0,i0,i0,i0,s0] []),nP (.sto 2 (.t 4) (.t 98)),nP (.sto 7 (.t 5) (.t 99)),oP 6 (.mv cF)] .ret) .skip)) (sR [lA 100 2 7,fD 101 3 13,nP (.sto 2 (.t 101) (.t 100))] (.seq (.drw [0,0,1,7,15] [(0,lA 102 2 2),(1,lA 103 7 13),(2,nP (.sto 2 (.t 4) (.t 102))),(3,nP (.sto 7 (.t 5) (.t 103))),(4,oP 6 (.mv cT))]) .ret)))))))))))))
theorem dg155:Dg Tryz.prog 155 Tryz.f155 qzh [(.cell 4 2 true),(.cell 5 7 true),(.t 6)]:=⟨Tryz.func155,by kernel_rfl,by kernel_rfl⟩
theorem c155 (d:Door) (p:Pk) (hd:doorOk d=true) (hp:PkP p) (hi:p.to.door=true):FnP Tryz.prog G 155 0 [.arr 132 3 (d.map.map Pair.row),.arr 130 8 (d.flows.map Flw.row)]
 [.agg [.own 0 d.map.length,.own 1 d.flows.length],.agg [.int .i64 p.kind,.int .i64 p.frm.a,.int .i64 p.frm.p,.int .i64 p.to.a,.int .i64 p.to.p,.int .i64 p.at_,.str p.text]] (qmw (dIn d p)):=by
 refine mP dg155 Tryz.ntmps155 ⟨_,_,rfl,rfl⟩ ?_
 obtain⟨hm,hfl,_⟩:=q0c.1 hd
 have hdr:=E.door_iff.1 hi
 simp only[qzh,go_sem]
 refine q34 (c181 d.map p.to.p hm (by omega)) [0] false (by simp only[go_sem];first|done|simp[E.row,Pc.row,Pair.row,Part.row,Flw.row,Pk.row,Conv.row]) (by simp only[List.mem_singleton];rintro c rfl;rfl) rfl (.inr rfl) ?_
 simp only[go_sem]
 cases hin:q0x d.map p.to.p with
 | none =>
   simp only[go_sem,Option.isSome_none,Option.getD_none,E.zero]
   refine q34 (c94 d.flows ⟨0,0⟩ p.frm (by omega)) [1] false (by simp only[go_sem];first|done|simp[E.row,Pc.row,Pair.row,Part.row,Flw.row,Pk.row,Conv.row]) (by simp only[List.mem_singleton];rintro c rfl;rfl) rfl (.inr rfl) ?_
   simp only[go_sem]
   with_reducible repeat' (first|refine br ?_ ?_<;>intro h e<;>(try simp only[e,go_sem])<;>clear e|rw[q00 (by omega)]|refine sd ?_<;>try simp only[go_sem]|fail)
   refine q1t (q:=none) 0 1 (qaw hin) ?_ ?_ ?_ ?_ ?_ ?_ ?_ (by decide)<;>simp only[go_sem,Option.isSome_none,Option.getD_none,Pk.zero,E.zero]
 | some i =>
   simp only[go_sem,Option.isSome_some,Option.getD_some]
   refine q34 (c94 d.flows i p.frm (by omega)) [1] false (by simp only[go_sem];first|done|simp[E.row,Pc.row,Pair.row,Part.row,Flw.row,Pk.row,Conv.row]) (by simp only[List.mem_singleton];rintro c rfl;rfl) rfl (.inr rfl) ?_
   simp only[go_sem]
   cases hf:q0y d.flows i p.frm with
   | none =>
     simp only[ixI,go_sem]
     with_reducible repeat' (first|refine br ?_ ?_<;>intro h e<;>(try simp only[e,go_sem])<;>clear e|rw[q00 (by omega)]|refine sd ?_<;>try simp only[go_sem]|fail)
     refine q1t (q:=none) 0 1 (qal hin hf) ?_ ?_ ?_ ?_ ?_ ?_ ?_ (by decide)<;>simp only[go_sem,Option.isSome_none,Option.getD_none,Pk.zero,E.zero]
   | some k =>
     obtain⟨hk,hke⟩:=qb8 hin hf
     rw[hke]
     have hg:d.flows.getD k default=Flw.at d k:=rfl
     have hfk:d.flows[k]?=some (Flw.at d k):=by simp[Flw.at,List.getD,hk]
     obtain⟨_,_,x6,x7,_⟩:=q2n hd hfk
     have s1:=q0t x6
     have s2:=q0t x7
     have so:=q4q s1
     have hpa:=hp.at_
     have hpl:=hp.len
     have f1:=c177 (Flw.at d k).up s1
     have f2:=c178 (Flw.at d k).up p.at_ s1 (by omega)
     have hlt:¬((k:Int)<0):=by omega
     simp only[ixI,go_sem,eq_false hlt]
     with_reducible repeat' (first|refine br ?_ ?_<;>intro h e<;>(try simp only[e,go_sem,q03 hk,hg])<;>clear e|rw[q00 (by omega)]|refine sd ?_<;>try simp only[go_sem,q03 hk,hg]|(first|refine cr (f1 ..) ?_|refine cr (f2 ..) ?_)<;>try simp only[go_sem,q03 hk,hg]|fail)
     ·have:inK d k i p=(d,none):=by
       simp only[inK];rw[if_pos (by assumption),if_pos (by omega)]
      refine q1t (q:=none) 0 1 this ?_ ?_ ?_ ?_ ?_ ?_ ?_ (by decide)<;>simp only[go_sem,Option.isSome_none,Option.getD_none,Pk.zero,E.zero]
     ·have:inK d k i p=(d,some ⟨2,p.frm,i,q38 (Flw.at d k).up.parts p.at_,[]⟩):=by
       simp only[inK];rw[if_pos (by assumption),if_neg (by omega)]
      refine q1t 0 1 this ?_ ?_ ?_ ?_ ?_ ?_ ?_ (by decide)<;>simp only[go_sem,Option.isSome_some,Option.getD_some]
     refine q1k (c179F d.map (Flw.at d k).down p.at_ p.text ⟨hm,x7,hpa,hpl⟩) [0] [] true 73 1 (by simp only[go_sem];first|done|simp) (by simp only[go_sem];first|done|simp) (by simp) (by simp) (by simp) ?_ ?_ ?_
     ·rintro res out ⟨_,rfl,rfl⟩
      exact⟨by simp,by simp,.inl rfl,λi hi=>by obtain rfl:i=0:=(by omega);simp[chH,q0h]⟩
     ·intro i hi
      obtain rfl:i=0:=by omega
      simp only[go_sem]
     have htx:=hp.tx.resolve_left (by assumption)
     have hpk:=q7h (m:=d.map) (s:=(Flw.at d k).down) (n:=p.at_) (t:=p.text) (out:=false) hm x7 htx hpa.1
     have hko:inK d k i p=if(put d.map (Flw.at d k).down p.at_ p.text false).2.2=false then(d,none)
      else(⟨d.map,d.flows.set k { Flw.at d k with down:=(put d.map (Flw.at d k).down p.at_ p.text false).2.1 }⟩,
       (q23 (Flw.at d k).down (put d.map (Flw.at d k).down p.at_ p.text false).2.1 p).map λq=>{ q with to:=i }):=by
      simp only[inK];rw[if_neg (by assumption)]
     rintro res out ⟨h,rfl,rfl⟩
     generalize hP:put d.map (Flw.at d k).down p.at_ p.text false=P at *
     obtain⟨m',s',ok'⟩:=P
     simp only at h hpk hko
     subst h
     cases ok'<;>simp only[go_sem]
     ·rw[if_pos rfl] at hko
      with_reducible repeat' (first|refine br ?_ ?_<;>intro h e<;>(try simp only[e,go_sem])<;>clear e|rw[q00 (by omega)]|refine sd ?_<;>try simp only[go_sem]|fail)
      refine q1t (q:=none) 0 1 hko ?_ ?_ ?_ ?_ ?_ ?_ ?_ (by decide)<;>simp only[go_sem,Option.isSome_none,Option.getD_none,Pk.zero,E.zero]
     rw[if_neg (by simp),qat] at hko
     have f3:=c180 (Flw.at d k).down s' p (q0t hpk.2) (by have:=s2.1;omega) (by omega) (by omega)
     generalize hS:qa7 (Flw.at d k).down s' p=S at *
     obtain⟨q,okq⟩:=S
     simp only at hko
     cases okq
     all_goals
      with_reducible repeat' (first|refine br ?_ ?_<;>intro h e<;>(try simp only[e,go_sem])<;>clear e|rw[q00 (by omega)]|refine sd ?_<;>try simp only[go_sem]|(first|refine cr (f3 ..) ?_)<;>try simp only[go_sem]|fail)
     ·refine q1t (d:=⟨d.map,d.flows.set k { Flw.at d k with down:=s' }⟩) (q:=none) 0 1 (by rw[hko];rfl) ?_ ?_ ?_ ?_ ?_ ?_ ?_ (by decide)<;>simp only[go_sem,Option.isSome_none,Option.getD_none,Pk.zero,E.zero,List.map_set,List.length_set,q03 hk,hg]
     ·refine q1t (d:=⟨d.map,d.flows.set k { Flw.at d k with down:=s' }⟩) (q:=some { q with to:=i }) 0 1 (by rw[hko];rfl) ?_ ?_ ?_ ?_ ?_ ?_ ?_ (by decide)<;>simp only[go_sem,Option.isSome_some,Option.getD_some,List.map_set,List.length_set,q03 hk,hg]
def j01:IC:=sR [oP 2 (.box 35 (.t 0)),oP 3 (.box 54 (.t 1)),oP 4 (.alloc 35 [.nils,.nils]),oP 5 (.alloc 54 [i0,i0,i0,i0,i0,i0,s0]),oP 6 (.mv cF)] (.seq (.block 0 (sR [fD 8 1 3,lA 9 2 8,oP 10 (.call 127 [.t 9]),mV 11 10,gT 12 11 (.fad 3 (.t 3)),gT 13 11 (.ld 2 true (.t 12)),gT 14 11 (.call 92 [.t 13]),pF 15 11 14,mV 7 15] (cD 7 (sR [lA 16 2 2,lA 17 7 3,oP 18 (.call 154 [.t 16,.t 17]),eX 19 18 0,eX 20 18 1,eX 21 18 2,nP (.sto 2 (.t 4) (.t 19)),nP (.sto 7 (.t 5) (.t 20)),mV 6 21] .ret) (sR [fD 23 1 3,lA 24 2 23,oP 25 (.call 92 [.t 24]),mV 26 25,gT 27 26 (.fad 3 (.t 3)),gT 28 26 (.ld 2 true (.t 27)),gT 29 26 (.call 120 [.t 28]),pF 30 26 29,mV 22 30] (cD 22 (sR [lA 31 2 2,lA 32 7 3,oP 33 (.call 155 [.t 31,.t 32]),eX 34 33 0,eX 35 33 1,eX 36 33 2,nP (.sto 2 (.t 4) (.t 34)),nP (.sto 7 (.t 5) (.t 35)),mV 6 36] .ret) .skip))))) (sR [lA 37 2 2,oP 38 (.build [i0,i0,i0,i0,i0,i0,s0] []),nP (.sto 2 (.t 4) (.t 37)),nP (.sto 7 (.t 5) (.t 38)),oP 6 (.mv cF)] .ret))
theorem dg132:Dg Tryz.prog 132 Tryz.f132 j01 [(.cell 4 2 true),(.cell 5 7 true),(.t 6)]:=⟨Tryz.func132,by kernel_rfl,by kernel_rfl⟩
theorem c132 (d:Door) (p:Pk) (hd:doorOk d=true) (hl:d.flows.length≤4) (hp:PkP p):FnP Tryz.prog G 132 0 [.arr 132 3 (d.map.map Pair.row),.arr 130 8 (d.flows.map Flw.row)]
 [.agg [.own 0 d.map.length,.own 1 d.flows.length],.agg [.int .i64 p.kind,.int .i64 p.frm.a,.int .i64 p.frm.p,.int .i64 p.to.a,.int .i64 p.to.p,.int .i64 p.at_,.str p.text]] (qmw (q1o d p)):=by
 refine mP dg132 Tryz.ntmps132 ⟨_,_,rfl,rfl⟩ ?_
 simp only[j01,go_sem]
 with_reducible repeat' (first|refine br ?_ ?_<;>intro h e<;>(try simp only[e,go_sem])<;>clear e|rw[q00 (by omega)]|refine sd ?_<;>try simp only[go_sem]|(first|refine cr (c127 ..) ?_|refine cr (c92 ..) ?_|refine cr (qja ..) ?_)<;>try simp only[go_sem]|fail)
 all_goals first
  | (have hx:q1o d p=(d,none):=by simp_all[q1o,Pk.outward,Pk.inward]
     refine q1t (q:=none) 0 1 hx ?_ ?_ ?_ ?_ ?_ ?_ ?_ (by decide)<;>simp only[go_sem,Option.isSome_none,Option.getD_none,Pk.zero,E.zero])
  | (have hx:q1o d p=q8y d p:=by simp_all[q1o,Pk.outward,Pk.inward]
     refine q1z (c154 d p hd hl hp (by assumption) (by assumption)) [0,1] [] 18 2 (by simp only[go_sem];first|done|simp) (by simp only[go_sem];first|done|simp) (by simp) (by simp) (by rintro _ _ ⟨rfl,rfl⟩;simp) (by intro i hi;rcases(show i=0∨i=1 by omega) with rfl|rfl<;>simp only[go_sem]) ?_
     rintro _ _ ⟨rfl,rfl⟩
     simp only[go_sem]
     refine q1t (d:=(q8y d p).1) (q:=(q8y d p).2) 101800 101801 hx ?_ ?_ ?_ ?_ ?_ ?_ ?_ (by decide)<;>simp only[go_sem])
  | (have hx:q1o d p=dIn d p:=by simp_all[q1o,Pk.outward,Pk.inward]
     refine q1z (c155 d p hd hp (by assumption)) [0,1] [] 33 2 (by simp only[go_sem];first|done|simp) (by simp only[go_sem];first|done|simp) (by simp) (by simp) (by rintro _ _ ⟨rfl,rfl⟩;simp) (by intro i hi;rcases(show i=0∨i=1 by omega) with rfl|rfl<;>simp only[go_sem]) ?_
     rintro _ _ ⟨rfl,rfl⟩
     simp only[go_sem]
     refine q1t (d:=(dIn d p).1) (q:=(dIn d p).2) 103300 103301 hx ?_ ?_ ?_ ?_ ?_ ?_ ?_ (by decide)<;>simp only[go_sem])
def qo4 (x:M.World×Option Pk) (r:V) (out:List Hs):Prop:=r=.tup [.agg [.own 0 x.1.convs.length,.own 1 x.1.door.map.length,.own 2 x.1.door.flows.length,.own 3 x.1.nets.length],.agg (Pk.row (x.2.getD .zero)),.bool x.2.isSome]∧out=[.arr 91 10 (x.1.convs.map Conv.row),.arr 132 3 (x.1.door.map.map Pair.row),.arr 130 8 (x.1.door.flows.map Flw.row),.arr 54 7 (x.1.nets.map Pk.row)]
theorem q70 {x:M.World×Option Pk} {w:M.World} {q:Option Pk} {l:List (Nat×V)} {mm:List (Nat×Hs)} (n0 n1 n2 n3:Nat) (hx:x=(w,q)) (h4:q0e l 4=.pv 3000004 0) (h5:q0e l 5=.pv 3000005 0) (h6:q0e l 6=.bool q.isSome)
 (m4:q01 mm 3000004=.var 38 [.own n0 w.convs.length,.own n1 w.door.map.length,.own n2 w.door.flows.length,.own n3 w.nets.length]) (m5:q01 mm 3000005=.var 54 (Pk.row (q.getD .zero)))
 (m0:q01 mm n0=.arr 91 10 (w.convs.map Conv.row)) (m1:q01 mm n1=.arr 132 3 (w.door.map.map Pair.row)) (m2:q01 mm n2=.arr 130 8 (w.door.flows.map Flw.row)) (m3:q01 mm n3=.arr 54 7 (w.nets.map Pk.row))
 (hne:[n0,n1,n2,n3].Nodup):q6f [.cell 4 4 true,.cell 5 7 true,.t 6] 0 (qo4 x) .ret ⟨q0e l,q01 mm⟩:=by
 subst hx
 refine q1h (.tup [.agg [.own 0 w.convs.length,.own 1 w.door.map.length,.own 2 w.door.flows.length,.own 3 w.nets.length],.agg (Pk.row (q.getD .zero)),.bool q.isSome]) [.arr 91 10 (w.convs.map Conv.row),.arr 132 3 (w.door.map.map Pair.row),.arr 130 8 (w.door.flows.map Flw.row),.arr 54 7 (w.nets.map Pk.row)] [(0,n0),(1,n1),(2,n2),(3,n3)] ?_ ⟨rfl,rfl⟩ ?_ (by simpa[q11,q0f] using hne) (by simp only[go_sem])
 ·simp only[go_sem,h4,h5,h6,m4,m5]
 ·simp only[go_sem,m0,m1,m2,m3]
def qxy:IC:=sR [oP 3 (.box 91 (.t 0)),oP 5 (.box 54 (.t 2)),oP 6 (.alloc 91 [i0,i0,i0,i0,s0,s0,i0,i0,s0,s0]),oP 7 (.alloc 54 [i0,i0,i0,i0,i0,i0,s0]),oP 8 (.mv cF)] (sR [fD 10 3 5,lA 11 2 10,fD 12 1 5,lA 13 2 12,oP 14 (.build [i0,i0,i0,i0,i0,i0,s0] [(0,(1,cI 2)),(1,(2,.t 11)),(3,(2,.t 13))]),oP 9 (.alloc 54 [i0,i0,i0,i0,i0,i0,s0]),nP (.sto 7 (.t 9) (.t 14))] (.seq (sR [mV 15 1,mV 16 15,gT 17 16 (.fad 1 (.t 5)),gT 18 16 (.ld 2 true (.t 17)),gT 19 16 (.fad 2 (.t 3)),gT 20 16 (.ld 2 true (.t 19)),gT 21 16 (.eqs true [.i,.i] (.t 18) (.t 20)),gT 22 16 (.mv (.t 21)),gF 23 22 (.fad 3 (.t 5)),gF 24 22 (.ld 2 true (.t 23)),gF 25 22 (.fad 0 (.t 3)),gF 26 22 (.ld 2 true (.t 25)),gF 27 22 (.eqs true [.i,.i] (.t 24) (.t 26)),gT 28 16 (.pick (.t 22) cT (.t 27)),pF 29 16 28,mV 30 29,gF 31 30 (.mv (.t 1)),gF 32 30 (.un .not (.t 31)),gF 33 30 (.mv (.t 32)),gT 34 33 (.fad 3 (.t 5)),gT 35 33 (.ld 2 true (.t 34)),gT 36 33 (.fad 2 (.t 3)),gT 37 33 (.ld 2 true (.t 36)),gT 38 33 (.eqs true [.i,.i] (.t 35) (.t 37)),gT 39 33 (.mv (.t 38)),gF 40 39 (.fad 1 (.t 5)),gF 41 39 (.ld 2 true (.t 40)),gF 42 39 (.call 120 [.t 41]),gF 43 39 (.un .not (.t 42)),gT 44 33 (.pick (.t 39) cT (.t 43)),gF 45 30 (.pick (.t 33) (.t 44) cF),pT 46 30 45] (cD 46 (sR [lA 47 10 3,oP 48 (.build [i0,i0,i0,i0,i0,i0,s0] []),nP (.sto 10 (.t 6) (.t 47)),nP (.sto 7 (.t 7) (.t 48)),oP 8 (.mv cF)] .ret) .skip)) (.seq (.block 0 (sR [fD 60 0 5,lD 61 1 60,oP 62 (.bin .eql (.t 61) (cI 1)),mV 63 62,gT 64 63 (.mv (.t 1)),pF 65 63 64,mV 59 65] (cD 59 (sR [fD 67 9 3,lD 68 1 67,fD 69 5 5,lD 70 1 69,fD 71 6 5,lD 72 1 71,oP 73 (.call 182 [.t 68,.t 70,.t 72]),mV 66 73,eX 74 66 0,eX 75 66 1,fD 76 9 3,nP (.sto 1 (.t 76) (.t 74))] (sR [fD 77 9 3,lD 78 1 77,oP 79 (.lens (.t 78)),fD 80 5 9,nP (.sto 1 (.t 80) (.t 79))] (.seq (.drw [0,0,1,7,15] [(0,lA 81 10 3),(1,lA 82 7 9),(2,nP (.sto 10 (.t 6) (.t 81))),(3,nP (.sto 7 (.t 7) (.t 82))),(4,oP 8 (.mv cT))]) .ret))) (sR [fD 84 0 5,lD 85 1 84,oP 86 (.bin .eql (.t 85) (cI 1)),mV 83 86] (cD 83 (sR [fD 88 8 3,lD 89 1 88,fD 90 5 5,lD 91 1 90,fD 92 6 5,lD 93 1 92,oP 94 (.call 182 [.t 89,.t 91,.t 93]),mV 87 94,eX 95 87 0,eX 96 87 1,fD 97 8 3,nP (.sto 1 (.t 97) (.t 95))] (sR [fD 98 8 3,lD 99 1 98,oP 100 (.lens (.t 99)),fD 101 5 9,nP (.sto 1 (.t 101) (.t 100))] (.seq (.drw [0,0,1,7,15] [(0,lA 102 10 3),(1,lA 103 7 9),(2,nP (.sto 10 (.t 6) (.t 102))),(3,nP (.sto 7 (.t 7) (.t 103))),(4,oP 8 (.mv cT))]) .ret))) (sR [mV 105 1,mV 104 105] (cD 104 (.reg [fD 106 6 3,lD 107 1 106,fD 108 5 5,lD 109 1 108,fD 110 4 3,lD 111 1 110,oP 112 (.lens (.t 111)),oP 113 (.mn (.t 109) (.t 112)),oP 114 (.mx (.t 107) (.t 113)),fD 115 6 3,nP (.sto 1 (.t 115) (.t 114))]) (.reg [fD 49 7 3,lD 50 1 49,fD 51 5 5,lD 52 1 51,fD 53 5 3,lD 54 1 53,oP 55 (.lens (.t 54)),oP 56 (.mn (.t 52) (.t 55)),oP 57 (.mx (.t 50) (.t 56)),fD 58 7 3,nP (.sto 1 (.t 58) (.t 57))])))))))) (sR [lA 116 10 3,oP 117 (.build [i0,i0,i0,i0,i0,i0,s0] []),nP (.sto 10 (.t 6) (.t 116)),nP (.sto 7 (.t 7) (.t 117)),oP 8 (.mv cF)] .ret))))
theorem dg156:Dg Tryz.prog 156 Tryz.f156 qxy [(.cell 6 10 true),(.cell 7 7 true),(.t 8)]:=⟨Tryz.func156,by kernel_rfl,by kernel_rfl⟩
theorem c156 (c:Conv) (b:Bool) (p:Pk) (hc:CvB c) (hp:PkP p):FnR Tryz.prog G 156 [.agg [.int .i64 c.ins.a,.int .i64 c.ins.p,.int .i64 c.out.a,.int .i64 c.out.p,.str c.up,.str c.down,.int .i64 c.upAck,.int .i64 c.downAck,.str c.upGot,.str c.downGot],.bool b,.agg [.int .i64 p.kind,.int .i64 p.frm.a,.int .i64 p.frm.p,.int .i64 p.to.a,.int .i64 p.to.p,.int .i64 p.at_,.str p.text]]
 (.tup [.agg (Conv.row (q4x c b p).1),.agg (Pk.row ((q4x c b p).2.getD .zero)),.bool (q4x c b p).2.isSome]):=by
 refine mF dg156 Tryz.ntmps156 ?_
 have h1:=hp.at_
 have h2:=hp.len
 have h3:=hc.upGot
 have h4:=hc.downGot
 have g1:=c182 c.upGot p.at_ p.text (by omega) (by omega) (by omega)
 have g2:=c182 c.downGot p.at_ p.text (by omega) (by omega) (by omega)
 simp only[qxy,go_sem]
 cases b<;>simp only[go_sem,E.ext_iff']
 all_goals
  with_reducible repeat' (first|refine br ?_ ?_<;>intro h e<;>(try simp only[e,go_sem,E.ext_iff'])<;>clear e|rw[q00 (by omega)]|refine sd ?_<;>try simp only[go_sem,E.ext_iff']|(first|refine cr (qja ..) ?_|refine cr (g1 ..) ?_|refine cr (g2 ..) ?_)<;>try simp only[go_sem,E.ext_iff']|fail)
 all_goals clear g1 g2
 all_goals first
  | (simp_all[q4x,Pk.zero,E.zero];done)
  | (have hk:p.kind=2:=by have:=hp.kd;omega
     simp_all[q4x,Pk.zero,E.zero];done)
end Go.Proofs.YtpppoklkijmeoaaGreatDoor.W
