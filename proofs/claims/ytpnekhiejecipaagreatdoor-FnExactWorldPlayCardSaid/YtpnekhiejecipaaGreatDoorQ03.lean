/- Part 3 of the proof: the walk over values, the plain model, contracts of the functions of the program. -/
import Derived.Test.YtpnekhiejecipaaGreatDoorQ02
import Derived.Test.YtpnekhiejecipaaGreatDoorChecked
import Derived.Shelf.LaysC
import Derived.Shelf.LaysM
import Derived.Shelf.Strings.Builder1
import Derived.Shelf.Small.Wraps
import Derived.Shelf.Strconv.Itoa3
import Derived.Shelf.Strconv.Clone
import Derived.Shelf.Strings.Cut
import Derived.Shelf.Strings.Split
import Derived.Test.YtpnekhiejecipaaGreatDoorProg
import Derived.OwnWalk
import Derived.WalkKit
import Derived.Deep.LoopGhost
import Derived.Lib.Walk
import Derived.Lib.SliceRun
import Derived.Shelf.Strings.OnBuilder
import Derived.Deep.RegionLaw
import Derived.Sort.WalkB12
import Derived.Shelf.Strconv.AtoiAll
set_option linter.all false
namespace Go.Proofs.YtpnekhiejecipaaGreatDoor.M
def StrB (s:Strm):Prop:=s.inn.length≤40∧s.parts.length≤40∧∀p∈s.parts,(1≤p.size∧p.size≤6)∧1≤p.text.length∧p.text.length≤6∧txOk p.text=true
theorem q4f:∀ {ps:List Part} {qs:List Pc},q0z ps qs=true→ps.length=qs.length
 | [],[],_=>rfl
 | p::ps,q::qs,h=>by
   simp only[q0z,Bool.and_eq_true] at h
   simp[q4f h.2]
 | [],_::_,h=>by simp[q0z] at h
 | _::_,[],h=>by simp[q0z] at h
theorem q7i:∀ {ps:List Part} {qs:List Pc},q0z ps qs=true→∀(i:Nat) p q,ps[i]?=some p→qs[i]?=some q→qb0 p q=true
 | [],[],_,i,p,q,h,_=>by simp at h
 | p::ps,q::qs,h,i,p',q',h1,h2=>by
   simp only[q0z,Bool.and_eq_true] at h
   cases i with
   | zero=>simp at h1 h2;subst h1 h2;exact h.1
   | succ i=>exact q7i h.2 i p' q' (by simpa using h1) (by simpa using h2)
 | [],_::_,h,_,_,_,_,_=>by simp[q0z] at h
 | _::_,[],h,_,_,_,_,_=>by simp[q0z] at h
theorem qg0:∀(n:Nat) (s:B),s.length≤n→∀q∈pcs s,1≤q.size∧q.size≤6:=by
 intro n
 induction n with
 | zero =>
   intro s hs
   have:s=[]:=List.eq_nil_of_length_eq_zero (by omega)
   subst this;intro q hq;cases hq
 | succ n ih =>
   intro s hs q hq
   by_cases h:s=[]
   ·subst h;cases hq
   obtain⟨p1,p2,p3⟩:=q2a h
   rw[q2t h] at hq
   rcases List.mem_cons.1 hq with rfl|hq
   ·exact⟨p1,p3⟩
   ·exact ih _ (by simp;omega) q hq
theorem q5e (t:B):∀q∈pieces t,1≤q.size∧q.size≤6:=by
 rw[q2n];exact qg0 _ _ (Nat.le_refl _)
theorem q5x {t:B} (h:txOk t=true):t.length≤40:=by
 simp only[txOk,Bool.and_eq_true,decide_eq_true_eq] at h;exact h.2
theorem q55 {p:Part} {q:Pc}:qb0 p q=true↔p.size=q.size∧(1≤p.text.length∧p.text.length≤6)∧txOk p.text=true:=by
 simp only[qb0,Bool.and_eq_true,decide_eq_true_eq,within_iff]
 constructor
 ·rintro⟨⟨a,b⟩,c⟩;exact⟨a,by omega,c⟩
 ·rintro⟨a,b,c⟩;exact⟨⟨a,by omega⟩,c⟩
theorem q0k {s:Strm} (h:strmOk s=true):StrB s:=by
 simp only[strmOk,Bool.and_eq_true] at h
 have hl:=q4f h.2
 have h40:=q5x h.1
 have:=q32 s.inn
 refine⟨h40,by omega,λp hp=>?_⟩
 obtain⟨i,hi⟩:=List.getElem?_of_mem hp
 have hil:=(List.getElem?_eq_some_iff.1 hi).1
 have hq:=zE (show i<(pieces s.inn).length by omega)
 obtain⟨a,b,c⟩:=q55.1 (q7i h.2 i _ _ hi hq)
 have:=q5e s.inn _ (List.getElem_mem (show i<(pieces s.inn).length by omega))
 exact⟨by omega,b.1,b.2,c⟩
theorem q7n (p:Part) (l:List Part):doneP (p::l)=p.size.toNat+doneP l:=by simp[doneP]
theorem q5n:∀ {ps:List Part} {qs:List Pc},q0z ps qs=true→doneP ps=(qs.map (·.size)).sum
 | [],[],_=>rfl
 | p::ps,q::qs,h=>by
   simp only[q0z,Bool.and_eq_true] at h
   have:=(q55.1 h.1).1
   rw[q7n,q5n h.2,this];simp
 | [],_::_,h=>by simp[q0z] at h
 | _::_,[],h=>by simp[q0z] at h
theorem q6b {s:Strm} (h:strmOk s=true):doneP s.parts=(body s.inn).length∧s.parts.length=(pieces s.inn).length:=by
 simp only[strmOk,Bool.and_eq_true] at h
 refine⟨?_,q4f h.2⟩
 rw[q5n h.2,q2n,qm4 _ _ (Nat.le_refl _)]
theorem q87 {s:Strm} (h:strmOk s=true) (t:B):s.parts.length≤(pieces (s.inn++t)).length∧(pieces (s.inn++t)).drop s.parts.length=pcs ((body (s.inn++t)).drop (body s.inn).length) ∧
 doneP s.parts≤(s.inn++t).length∧fits ((pieces (s.inn++t)).drop s.parts.length) ((s.inn++t).drop (doneP s.parts)):=by
 obtain⟨h1,h2⟩:=q6b h
 have hp:=q7m s.inn t
 have hb:=q5z s.inn t
 have e1:(pieces (s.inn++t)).drop s.parts.length=pcs ((body (s.inn++t)).drop (body s.inn).length):=by
  rw[hp,h2,List.drop_left']
  rfl
 refine⟨by rw[hp,h2];simp,e1,by rw[h1,q3d];simp;omega, ?_⟩
 rw[e1,h1]
 have:s.inn++t=body (s.inn++t)++(s.inn++t).drop ((s.inn++t).length - held (s.inn++t)):=(List.take_append_drop _ _).symm
 conv=>rhs;rw[this]
 have hl:=congrArg List.length hb
 simp only[zA] at hl
 rw[List.drop_append_of_le_length (by omega)]
 exact qiu _ _ _ (Nat.le_refl _)
theorem forP_rng {l:List Part} (h:∀p∈l,p.text.length≤6):∀i,0≤q0x l i∧q0x l i≤6*l.length:=by
 induction l with
 | nil=>intro i;simp[q0x]
 | cons p l ih =>
   intro i
   have:=ih (λq hq=>h q (by simp[hq])) (i - p.size)
   have:=h p (by simp)
   simp only[q0x,zC]
   split<;>omega
theorem qf6 {l:List Part} (h:∀p∈l,0≤p.size∧p.size≤6):∀i,0≤q2c l i∧q2c l i≤6*l.length:=by
 induction l with
 | nil=>intro i;simp[q2c]
 | cons p l ih =>
   intro i
   have:=ih (λq hq=>h q (by simp[hq])) (i - p.text.length)
   have:=h p (by simp)
   simp only[q2c,zC]
   split<;>omega
def qik (l:List Part):B:=l.flatMap (·.text)
theorem qfo {l:List Part} {i:Nat} (h:i<l.length):qik (l.take (i+1))=qik (l.take i)++l[i].text:=by
 unfold qik
 rw[List.take_add_one,zE h,List.flatMap_append]
 simp
theorem qg1 {l:List Part} (h:∀p∈l,p.text.length≤6) (i:Nat):(qik (l.take i)).length≤6*l.length:=by
 have key:∀(l:List Part),(∀p∈l,p.text.length≤6)→(qik l).length≤6*l.length:=by
  intro l
  induction l with
  | nil=>intro _;simp[qik]
  | cons p l ih =>
    intro h
    have:=ih λq hq=>h q (by simp[hq])
    have:=h p (by simp)
    simp only[qik,List.flatMap_cons,zA,zC] at *
    omega
 have:=key (l.take i) λp hp=>h p (List.mem_of_mem_take hp)
 simp only[List.length_take] at this
 omega
theorem q7q {l:List Part} {i:Nat} (h:i<l.length):doneP (l.take (i+1))=doneP (l.take i)+l[i].size.toNat:=by
 unfold doneP
 rw[List.take_add_one,zE h,List.map_append,List.sum_append]
 rfl
theorem qbh {l:List Part} (h:∀p∈l,p.size≤6) (i:Nat):doneP (l.take i)≤6*l.length:=by
 have key:∀(l:List Part),(∀p∈l,p.size≤6)→doneP l≤6*l.length:=by
  intro l
  induction l with
  | nil=>intro _;simp[doneP]
  | cons p l ih =>
    intro h
    have:=ih λq hq=>h q (by simp[hq])
    have:=h p (by simp)
    rw[q7n,zC]
    omega
 have:=key (l.take i) λp hp=>h p (List.mem_of_mem_take hp)
 simp only[List.length_take] at this
 omega
theorem q5c {c:B} {n:Int} {t:B} (h:(q0a c n t).2=true):∃x,(q0a c n t).1=c++x∧x.length≤t.length:=by
 unfold q0a at h ⊢
 split
 ·rename_i hc;rw[if_pos hc] at h;cases h
 ·split
  ·exact⟨[],by simp,by simp⟩
  ·exact⟨_,rfl,by simp⟩
theorem q39:∀ {l:List Pc} {ts:List B},ts.length=l.length→(q0q l ts).length=l.length
 | [],[],_=>rfl
 | p::ps,b::bs,h=>by simp[q0q,q39 (l:=ps) (ts:=bs) (by simpa using h)]
 | [],_::_,h=>by simp at h
 | _::_,[],h=>by simp at h
theorem q5a:∀(l:List Pc) (m:List Pair) (s:B) (out:Bool),(turned m l s out).2.length=l.length
 | [],m,s,out=>rfl
 | p::ps,m,s,out=>by simp[turned,q5a ps]
theorem q5k:∀(l:List Pc) (ts:List B) (i:Nat),ts.length=l.length→i<l.length→q0q (l.take (i+1)) (ts.take (i+1))=q0q (l.take i) (ts.take i)++[⟨(l.getD i default).size,ts.getD i default⟩]
 | [],_,i,_,h=>by simp at h
 | _::_,[],i,h,_=>by simp at h
 | p::ps,b::bs,0,_,_=>by simp[q0q]
 | p::ps,b::bs,i+1,h1,h2=>by
   have:=q5k ps bs i (by simpa using h1) (by simpa using h2)
   simp[q0q,this]
structure PutI (m:List Pair) (s:Strm) (inn:B) (out:Bool) (mm:List Pair) (ts:List B) (i d:Nat):Prop where
 hk:s.parts.length≤i
 hi:i≤(pieces inn).length
 hp:PortsOk mm
 ml:mm.length≤m.length+i
 ht:s.parts.length+ts.length=i
 hd:d≤inn.length
 f:fits ((pieces inn).drop i) (inn.drop d)
 o:out=false→mm=m
 e:turned m ((pieces inn).drop s.parts.length) (inn.drop (doneP s.parts)) out=((turned mm ((pieces inn).drop i) (inn.drop d) out).1,ts++(turned mm ((pieces inn).drop i) (inn.drop d) out).2)
theorem q47:∀(l:List Pc) (ts:List B) (b:B),ts.length<l.length→q0q l (ts++[b])=q0q l ts++[⟨(l.getD ts.length default).size,b⟩]
 | [],ts,b,h=>by simp at h
 | p::ps,[],b,_=>by simp[q0q]
 | p::ps,t::ts,b,h=>by
   have:=q47 ps ts b (by simpa using h)
   simp[q0q,this]
theorem q23:∀(l:List Pc) (ts:List B),ts.length≤l.length→(q0q l ts).length=ts.length
 | [],ts,h=>by simp at h;subst h;rfl
 | p::ps,[],_=>rfl
 | p::ps,t::ts,h=>by simp[q0q,q23 ps ts (by simpa using h)]
theorem PutI.step {m:List Pair} {s:Strm} {inn:B} {out:Bool} {mm:List Pair} {ts:List B} {i d:Nat} (h:PutI m s inn out mm ts i d) (hi:i<(pieces inn).length) :
 d+((pieces inn).getD i default).size≤inn.length ∧
 PutI m s inn out (turn mm ((pieces inn).getD i default) ((inn.drop d).take ((pieces inn).getD i default).size) out).1 (ts++[(turn mm ((pieces inn).getD i default) ((inn.drop d).take ((pieces inn).getD i default).size) out).2]) (i+1) (d+((pieces inn).getD i default).size):=by
 have hg:(pieces inn).getD i default=(pieces inn)[i]:=by simp[List.getD,hi]
 obtain⟨h1,h2,h3,h4,h5,h6,h7,h8,h9⟩:=h
 rw[hg]
 rw[List.drop_eq_getElem_cons hi] at h7 h9
 generalize (pieces inn)[i]=q at *
 obtain⟨f1,f2⟩:=h7
 rw[List.length_drop] at f1
 have htl:=qbv mm q ((inn.drop d).take q.size) out
 refine⟨by omega,by omega,by omega,h3.turn q _ out,by omega,by simp;omega,by omega,by rwa [List.drop_drop] at f2,λhf=>by subst hf;exact h8 rfl, ?_⟩
 rw[h9]
 simp only[turned,List.drop_drop,List.append_assoc,List.singleton_append]
theorem PutI.init {m:List Pair} {s:Strm} {x:B} {out:Bool} (hm:PortsOk m) (hs:strmOk s=true):PutI m s (s.inn++x) out m [] s.parts.length (doneP s.parts):=by
 obtain⟨f1,f2,f3,f4⟩:=q87 hs x
 exact⟨Nat.le_refl _,f1,hm,by omega,by simp,f3,f4,λ_=>rfl,by simp⟩
theorem PutI.done {m:List Pair} {s:Strm} {inn:B} {out:Bool} {mm:List Pair} {ts:List B} {d:Nat} (h:PutI m s inn out mm ts (pieces inn).length d) :
 turned m ((pieces inn).drop s.parts.length) (inn.drop (doneP s.parts)) out=(mm,ts):=by
 rw[h.e,List.drop_length];simp[turned]
theorem qbp {m:List Pair} {s:Strm} {n:Int} {t:B} {out:Bool} {mm:List Pair} {ts:List B} {d:Nat} (hb:(q0a s.inn n t).2=true) (h:PutI m s (q0a s.inn n t).1 out mm ts (pieces (q0a s.inn n t).1).length d) :
 put m s n t out=(mm,⟨(q0a s.inn n t).1,s.parts++q0q ((pieces (q0a s.inn n t).1).drop s.parts.length) ts⟩,true):=by
 simp[put,hb,h.done]
def ixI (o:Option Nat):Int:=match o with
 | some k=>k
 | none => -1
theorem q3g (f:Flw) (fs:List Flw) (i o:E):q0w (f::fs) i o=if f.ins=i∧f.out=o then some 0 else(q0w fs i o).map (·+1):=by
 unfold q0w
 rw[List.findIdx?_cons]
 by_cases h1:f.ins=i<;>by_cases h2:f.out=o<;>simp[h1,h2]
theorem q7j (i o:E):q0w [] i o=none:=rfl
def q2v (i o:E) (f:Flw):Bool:=decide (f.ins=i)&&decide (f.out=o)
theorem q6j:∀ {fs:List Flw} {i o:E},q0w fs i o=none↔fs.any (q2v i o)=false
 | [],i,o=>by simp[q7j]
 | f::fs,i,o=>by
   rw[q3g]
   have:=q6j (fs:=fs) (i:=i) (o:=o)
   by_cases h:f.ins=i∧f.out=o
   ·rw[if_pos h];simp[q2v,h]
   ·rw[if_neg h]
    have hs:q2v i o f=false:=by rw[q2v,←Bool.decide_and];simpa using h
    simp[hs,this]
theorem q49:∀ {fs:List Flw} {i o:E} {k:Nat},q0w fs i o=some k→∃f,fs[k]?=some f∧f.ins=i∧f.out=o∧(fs.take k).any (q2v i o)=false
 | [],i,o,k,h=>by simp[q7j] at h
 | f::fs,i,o,k,h=>by
   rw[q3g] at h
   by_cases hc:f.ins=i∧f.out=o
   ·rw[if_pos hc] at h;cases h;exact⟨f,rfl,hc.1,hc.2,rfl⟩
   ·rw[if_neg hc] at h
    cases hx:q0w fs i o with
    | none=>rw[hx] at h;cases h
    | some j =>
      rw[hx] at h;cases h
      obtain⟨g,h1,h2,h3,h4⟩:=q49 hx
      have hs:q2v i o f=false:=by rw[q2v,←Bool.decide_and];simpa using hc
      exact⟨g,by simpa using h1,h2,h3,by simp[hs,h4]⟩
theorem qs3 {o:Option Nat}:ixI o<0↔o=none:=by
 cases o with
 | none=>simp[ixI]
 | some k=>simp only[ixI,reduceCtorEq,iff_false];omega
theorem qb4 {d:Door} {k:Nat} (h:k<d.flows.length):qbk d k=(d.map.any (λp=>decide (p.ins=d.flows[k].ins))&&d.flows[k].out.outside&&strmOk d.flows[k].up&&strmOk d.flows[k].down&&!(d.flows.take k).any (q2v d.flows[k].ins d.flows[k].out)):=by
 unfold qbk
 rw[zE h]
 rfl
theorem q0i {d:Door}:doorOk d=true↔mapOk d.map=true∧d.flows.length≤4∧∀k,k<d.flows.length→qbk d k=true:=by
 simp[doorOk,List.all_eq_true,and_assoc]
theorem q6c {m:List Pair}:mapOk m=true↔m.length≤8∧∀(i:Nat) p,m[i]?=some p→p.port=10+(i:Int)∧p.ins.inside=true∧(m.take i).any (λq=>decide (q.ins=p.ins))=false:=by
 simp only[mapOk,Bool.and_eq_true,List.all_eq_true,List.mem_range,decide_eq_true_eq]
 constructor
 ·rintro⟨h1,h2⟩
  refine⟨h2,λi p hp=>?_⟩
  have hi:i<m.length:=(List.getElem?_eq_some_iff.1 hp).1
  have:=h1 i hi
  simp only[q9q,hp,Bool.and_eq_true,decide_eq_true_eq,Bool.not_eq_true'] at this
  exact⟨this.1.1,this.1.2,this.2⟩
 ·rintro⟨h1,h2⟩
  refine⟨λi hi=>?_,h1⟩
  obtain⟨a,b,c⟩:=h2 i m[i] (zE hi)
  simp only[q9q,zE hi,a,b,c]
  simp
theorem qdy {m:List Pair} {e:E} (h:mapOk m=true) (he:e.inside=true):mapOk (mOut m e).1=true:=by
 unfold mOut
 split
 ·exact h
 ·rename_i hf
  split
  ·exact h
  ·rename_i hl
   rw[List.find?_eq_none] at hf
   obtain⟨h1,h2⟩:=q6c.1 h
   refine q6c.2 ⟨by simp;omega,λi p hp=>?_⟩
   by_cases hi:i<m.length
   ·rw[List.getElem?_append_left hi] at hp
    obtain⟨a,b,c⟩:=h2 i p hp
    refine⟨a,b, ?_⟩
    rw[List.take_append_of_le_length (by omega)]
    exact c
   ·have hil:=(List.getElem?_eq_some_iff.1 hp).1
    simp only[zA,zC,zN] at hil
    obtain rfl:i=m.length:=by omega
    rw[List.getElem?_append_right (Nat.le_refl _)] at hp
    simp only[Nat.sub_self,List.getElem?_cons_zero,zS] at hp
    subst hp
    refine⟨rfl,he, ?_⟩
    rw[List.take_left',List.any_eq_false]
    ·exact hf
    ·rfl
theorem qe1 {m:List Pair} {e:E} (h:mapOk m=true) (hok:(mOut m e).2.2=true):(⟨9,(mOut m e).2.1⟩:E).door=true:=by
 rw[E.door_iff]
 unfold mOut at hok ⊢
 obtain⟨h1,h2⟩:=q6c.1 h
 split
 ·rename_i p hf
  have:=List.mem_of_find?_eq_some hf
  obtain⟨i,hi,rfl⟩:=List.mem_iff_getElem.1 this
  obtain⟨a,_,_⟩:=h2 i _ (zE hi)
  refine⟨rfl, ?_⟩
  simp only[a];omega
 ·split
  ·rename_i hf hl
   simp only[hf,if_pos hl] at hok
   cases hok
  ·refine⟨rfl, ?_⟩
   simp only;omega
theorem q9y {m:List Pair} {n:Int} {e:E} (h:mapOk m=true) (hi:q0p m n=some e):e.inside=true:=by
 unfold q0p at hi
 obtain⟨p,hp,rfl⟩:=Option.map_eq_some_iff.1 hi
 have:=List.mem_of_find?_eq_some hp
 obtain⟨i,hil,rfl⟩:=List.mem_iff_getElem.1 this
 exact(q5t h hil).2
theorem qfw (e:E):(name e).all okB=true:=by
 simp only[name,List.all_cons,List.all_append,qns,List.all_nil];decide
theorem qcj {e:E} (h:e.inside=true):e.any=true:=by simp[E.any,h]
theorem qju {e:E} (h:e.door=true):e.any=true:=by simp[E.any,h]
theorem q7h {m:List Pair} (h:mapOk m=true) (p:Pc) (s:B) (out:Bool):mapOk (turn m p s out).1=true:=by
 cases out
 ·exact h
 ·simp only[turn,cond_true,q0o]
  split
  ·rename_i hc
   rw[Bool.and_eq_true] at hc
   have:=qdy h hc.2
   rcases hmo:mOut m p.e with⟨x,port,ok⟩
   rw[hmo] at this
   cases ok
   ·exact h
   ·exact this
  ·exact h
theorem qh3 {m:List Pair} (h:mapOk m=true) (p:Pc) {s:B} (out:Bool) (hs:1≤s.length∧s.length≤6) (hok:s.all okB=true) :
 (1≤(turn m p s out).2.length∧(turn m p s out).2.length≤6)∧(turn m p s out).2.all okB=true:=by
 cases out
 ·simp only[turn,cond_false,q1x]
  split
  ·split
   ·rename_i e he
    have:=q3s (qcj (q9y h he))
    refine⟨?_,qfw e⟩
    have hl:=q8r e
    split at this<;>omega
   ·exact⟨hs,hok⟩
  ·exact⟨hs,hok⟩
 ·simp only[turn,cond_true,q0o]
  split
  ·have hd:=qe1 (e:=p.e) h
   rcases hmo:mOut m p.e with⟨x,port,ok⟩
   rw[hmo] at hd
   cases ok
   ·exact⟨hs,hok⟩
   ·have:=q3s (qju (hd rfl))
    have hl:=q8r ⟨9,port⟩
    refine⟨?_,qfw _⟩
    simp only at this ⊢
    split at this<;>omega
  ·exact⟨hs,hok⟩
theorem q62 {s:B} {n:Nat} (h:s.all okB=true):(s.take n).all okB=true:=by
 rw[List.all_eq_true] at h ⊢;exact λb hb=>h b (List.mem_of_mem_take hb)
theorem q3r {s:B} {n:Nat} (h:s.all okB=true):(s.drop n).all okB=true:=by
 rw[List.all_eq_true] at h ⊢;exact λb hb=>h b (List.mem_of_mem_drop hb)
theorem q5h:∀ {l:List Pc} {m:List Pair} {s:B} {out:Bool},mapOk m=true→mapOk (turned m l s out).1=true
 | [],m,s,out,h=>h
 | p::ps,m,s,out,h=>by
   simp only[turned];exact q5h (q7h h _ _ _)
theorem q71:∀ {l:List Pc} {m:List Pair} {s:B} {out:Bool},mapOk m=true→fits l s→(∀q∈l,1≤q.size∧q.size≤6)→s.all okB=true →
 ∀b∈(turned m l s out).2,(1≤b.length∧b.length≤6)∧b.all okB=true
 | [],m,s,out,_,_,_,_=>by simp[turned]
 | p::ps,m,s,out,h,hf,hq,hs=>by
   obtain⟨f1,f2⟩:=hf
   have hp:=hq p (List.mem_cons_self ..)
   simp only[turned]
   intro b hb
   rcases List.mem_cons.1 hb with rfl|hb
   ·exact qh3 h p out (by rw[List.length_take];omega) (q62 hs)
   ·exact q71 (q7h h _ _ _) f2 (λq hq'=>hq q (List.mem_cons_of_mem _ hq')) (q3r hs) b hb
theorem q7c:∀ {l:List Pc} {ts:List B},ts.length=l.length→(∀b∈ts,(1≤b.length∧b.length≤6)∧b.all okB=true)→q0z (q0q l ts) l=true
 | [],[],_,_=>rfl
 | p::ps,b::bs,hl,h=>by
   have hb:=h b (List.mem_cons_self ..)
   simp only[q0q,q0z,Bool.and_eq_true]
   refine⟨?_,q7c (by simpa using hl) λx hx=>h x (List.mem_cons_of_mem _ hx)⟩
   rw[q55]
   refine⟨rfl,hb.1, ?_⟩
   simp only[txOk,Bool.and_eq_true,decide_eq_true_eq]
   exact⟨hb.2,by omega⟩
 | [],_::_,hl,_=>by simp at hl
 | _::_,[],hl,_=>by simp at hl
theorem q6s:∀ {a:List Part} {c:List Pc} {b:List Part} {d:List Pc},q0z a c=true→q0z b d=true→q0z (a++b) (c++d)=true
 | [],[],b,d,_,h=>h
 | x::xs,y::ys,b,d,h1,h2=>by
   simp only[q0z,Bool.and_eq_true] at h1
   simp only[List.cons_append,q0z,Bool.and_eq_true]
   exact⟨h1.1,q6s h1.2 h2⟩
 | [],_::_,b,d,h,_=>by simp[q0z] at h
 | _::_,[],b,d,h,_=>by simp[q0z] at h
theorem q9b {c:B} {n:Int} {t:B} (hc:txOk c=true) (ht:txOk t=true) (hn:0≤n) (h:(q0a c n t).2=true):txOk (q0a c n t).1=true:=by
 simp only[txOk,Bool.and_eq_true,decide_eq_true_eq] at hc ht ⊢
 unfold q0a at h ⊢
 split
 ·exact hc
 ·rename_i h1
  simp only[Bool.or_eq_true,decide_eq_true_eq,not_or,Int.not_lt,gt_iff_lt] at h1
  split
  ·exact hc
  ·refine⟨?_, ?_⟩
   ·simp only[List.all_append,hc.1,q3r ht.1,Bool.and_self]
   ·simp only[zA,List.length_drop];omega
theorem q45 {m:List Pair} {s:Strm} {n:Int} {t:B} {out:Bool} (hm:mapOk m=true) (hs:strmOk s=true) (ht:txOk t=true) (hn:0≤n) :
 mapOk (put m s n t out).1=true∧strmOk (put m s n t out).2.1=true:=by
 unfold put
 split
 ·rename_i hb
  refine⟨q5h hm, ?_⟩
  have hs0:txOk s.inn=true∧q0z s.parts (pieces s.inn)=true:=by simpa[strmOk] using hs
  have htx:=q9b hs0.1 ht hn hb
  obtain⟨x,hx,_⟩:=q5c hb
  obtain⟨f1,f2,f3,f4⟩:=q87 hs x
  rw[←hx] at f1 f2 f3 f4
  simp only[strmOk,htx,Bool.true_and]
  have hq:∀q∈(pieces (q0a s.inn n t).1).drop s.parts.length,1≤q.size∧q.size≤6:=λq hq=>q5e _ q (List.mem_of_mem_drop hq)
  have hpc:pieces (q0a s.inn n t).1=pieces s.inn++(pieces (q0a s.inn n t).1).drop s.parts.length:=by
   have h1:=q7m s.inn x
   rw[←hx] at h1
   rw[f2,h1,hx]
  conv=>lhs;arg 2;rw[hpc]
  refine q6s hs0.2 (q7c (q5a ..) ?_)
  refine q71 hm f4 hq (q3r ?_)
  simp only[txOk,Bool.and_eq_true] at htx
  exact htx.1
 ·exact⟨hm,hs⟩
theorem q1z {l:List Part} (i:Int):0≤q0x l i∧q0x l i≤((l.flatMap (·.text)).length:Int):=by
 induction l generalizing i with
 | nil=>simp[q0x]
 | cons p l ih =>
   have:=ih (i - p.size)
   simp only[q0x,List.flatMap_cons,zA]
   split<;>omega
theorem q29 {s:Strm} (h:StrB s):(sOut s).length≤240:=by
 have h1:=qg1 (l:=s.parts) (λp hp=>(h.2.2 p hp).2.2.1) s.parts.length
 rw[List.take_length] at h1
 have:=h.2.1
 show(qik s.parts).length≤240
 omega
def toR (was is:Strm) (p:Pk):Int:=if was.inn.length<is.inn.length then((sOut is).length:Int) else q0x is.parts (min (p.at_+p.text.length) is.inn.length)
theorem qc8 (was is:Strm) (p:Pk):0≤toR was is p∧toR was is p≤(sOut is).length:=by
 unfold toR
 split
 ·omega
 ·exact q1z _
theorem q8j (m:List Pair) (s:Strm) (n:Int) (t:B) (out:Bool):s.inn.length≤(put m s n t out).2.1.inn.length:=by
 unfold put
 split
 ·rename_i h
  obtain⟨x,hx,_⟩:=q5c h
  simp only[hx,zA];omega
 ·exact Nat.le_refl _
def q80 (was is:Strm) (p:Pk):Pk×Bool :=
 if q0x is.parts p.at_≥toR was is p then(.zero,false)
 else({ p with at_:=q0x is.parts p.at_,text:=((sOut is).take (toR was is p).toNat).drop (q0x is.parts p.at_).toNat },decide ((((sOut is).take (toR was is p).toNat).drop (q0x is.parts p.at_).toNat).length≤40))
theorem q8q (was is:Strm) (p:Pk):q1n was is p=if(q80 was is p).2 then some (q80 was is p).1 else none:=by
 have h1:=q1z (l:=is.parts) p.at_
 have h2:=qc8 was is p
 have h3:q1n was is p=if q0x is.parts p.at_≥toR was is p then none else if toR was is p - q0x is.parts p.at_≤40 then some { p with at_:=q0x is.parts p.at_,text:=((sOut is).take (toR was is p).toNat).drop (q0x is.parts p.at_).toNat } else none:=rfl
 rw[h3]
 unfold q80
 by_cases hc:q0x is.parts p.at_≥toR was is p
 ·rw[if_pos hc,if_pos hc];rfl
 ·rw[if_neg hc,if_neg hc]
  have hl:(((sOut is).take (toR was is p).toNat).drop (q0x is.parts p.at_).toNat).length=(toR was is p - q0x is.parts p.at_).toNat:=by
   rw[List.length_drop,List.length_take];omega
  simp only[hl]
  by_cases h4:toR was is p - q0x is.parts p.at_≤40
  ·rw[if_pos h4,if_pos (by simp;omega)]
  ·rw[if_neg h4,if_neg (by simp;omega)]
def q1d (was is:Strm) (p:Pk):Pk×Bool :=
 ({ p with at_:=q0x is.parts p.at_,text:=((sOut is).take (max (toR was is p) (q0x is.parts p.at_)).toNat).drop (q0x is.parts p.at_).toNat },
   q0m (((sOut is).take (max (toR was is p) (q0x is.parts p.at_)).toNat).drop (q0x is.parts p.at_).toNat).length 1 40)
theorem q64 (was is:Strm) (p:Pk):q1n was is p=if(q1d was is p).2 then some (q1d was is p).1 else none:=by
 have h1:=q1z (l:=is.parts) p.at_
 have h2:=qc8 was is p
 have h3:q1n was is p=if q0x is.parts p.at_≥toR was is p then none else if toR was is p - q0x is.parts p.at_≤40 then some { p with at_:=q0x is.parts p.at_,text:=((sOut is).take (toR was is p).toNat).drop (q0x is.parts p.at_).toNat } else none:=rfl
 rw[h3]
 unfold q1d
 have hl:(((sOut is).take (max (toR was is p) (q0x is.parts p.at_)).toNat).drop (q0x is.parts p.at_).toNat).length=(max (toR was is p) (q0x is.parts p.at_) - q0x is.parts p.at_).toNat:=by
  rw[List.length_drop,List.length_take]
  have h5:q0x is.parts p.at_≤((sOut is).length:Int):=h1.2
  omega
 simp only[hl]
 by_cases hc:q0x is.parts p.at_≥toR was is p
 ·rw[if_pos hc,if_neg]
  rw[within_iff];omega
 ·rw[if_neg hc]
  have hmx:max (toR was is p) (q0x is.parts p.at_)=toR was is p:=by omega
  by_cases h4:toR was is p - q0x is.parts p.at_≤40
  ·rw[if_pos h4,if_pos (by rw[within_iff];omega),hmx]
  ·rw[if_neg h4,if_neg (by rw[within_iff];omega)]
def q1m (d:Door) (i o:E):Door×Nat×Bool:=match q5q d i o with
 | some (x,k)=>(x,k,true)
 | none=>(d,0,false)
theorem q66 {d:Door} {i o:E} {k:Nat} (h:q0w d.flows i o=some k):q1m d i o=(d,k,true):=by
 simp[q1m,q5q,h]
theorem q8l {d:Door} {i o:E} (h:q0w d.flows i o=none) (h2:(mOut d.map i).2.2=false):q1m d i o=(d,0,false):=by
 rcases hm:mOut d.map i with⟨m,n,ok⟩
 rw[hm] at h2
 simp only at h2
 subst h2
 simp[q1m,q5q,h,hm]
theorem q4v {d:Door} {i o:E} (h:q0w d.flows i o=none) (h2:(mOut d.map i).2.2=true) (h3:d.flows.length<4):q1m d i o=(⟨(mOut d.map i).1,d.flows++[⟨i,o,.zero,.zero⟩]⟩,d.flows.length,true):=by
 rcases hm:mOut d.map i with⟨m,n,ok⟩
 rw[hm] at h2
 simp only at h2
 subst h2
 simp[q1m,q5q,h,hm,h3]
structure OpenedP (d:Door) (i o:E) (x:Door) (k:Nat):Prop where
 map:mapOk x.map=true
 port:portOf x.map i≠0
 len:x.flows.length≤d.flows.length+1
 kl:k<x.flows.length
 flow:(x.flows.getD k default).ins=i∧(x.flows.getD k default).out=o
 up:strmOk (x.flows.getD k default).up=true
 down:strmOk (x.flows.getD k default).down=true
 ok:doorOk x=true
theorem q2k:strmOk .zero=true:=by decide
theorem q7e {m:List Pair} (hm:mapOk m=true) (e:E):portOf m e≠0↔m.any (λq=>decide (q.ins=e))=true :=
 qel λp hp=>((q0c hm).1 p hp).1
theorem qbg {m:List Pair} {e f:E} (h:m.any (λq=>decide (q.ins=f))=true):(mOut m e).1.any (λq=>decide (q.ins=f))=true:=by
 unfold mOut
 split
 ·exact h
 ·split
  ·exact h
  ·simp only[List.any_append,h,Bool.true_or]
theorem q7x {m:List Pair} {e:E} (h:(mOut m e).2.2=true):(mOut m e).1.any (λq=>decide (q.ins=e))=true:=by
 unfold mOut at h ⊢
 split
 ·rename_i p hf
  rw[List.any_eq_true]
  have:=List.find?_some hf
  exact⟨p,List.mem_of_find?_eq_some hf,this⟩
 ·rename_i hf
  split
  ·rename_i hl;simp only[hf,if_pos hl] at h;cases h
  ·simp
theorem q1u {d:Door} (h:doorOk d=true) {k:Nat} {f:Flw} (hf:d.flows[k]?=some f):d.map.any (λp=>decide (p.ins=f.ins))=true∧f.out.outside=true∧strmOk f.up=true∧strmOk f.down=true∧(d.flows.take k).any (q2v f.ins f.out)=false:=by
 obtain⟨_,_,h3⟩:=q0i.1 h
 have hk:k<d.flows.length:=(List.getElem?_eq_some_iff.1 hf).1
 have h4:=h3 k hk
 rw[qb4 hk] at h4
 obtain rfl:d.flows[k]=f:=by rw[zE hk] at hf;exact Option.some.inj hf
 simp only[Bool.and_eq_true,Bool.not_eq_true'] at h4
 exact⟨h4.1.1.1.1,h4.1.1.1.2,h4.1.1.2,h4.1.2,h4.2⟩
theorem q9f {m:List Pair} {fs:List Flw} (hm:mapOk m=true) (hl:fs.length≤4) (h:∀k f,fs[k]?=some f→m.any (λp=>decide (p.ins=f.ins))=true∧f.out.outside=true∧strmOk f.up=true∧strmOk f.down=true∧(fs.take k).any (q2v f.ins f.out)=false):doorOk ⟨m,fs⟩=true:=by
 refine q0i.2 ⟨hm,hl,λk hk=>?_⟩
 rw[qb4 (d:=⟨m,fs⟩) hk]
 obtain⟨a,b,c,d,e⟩:=h k _ (zE hk)
 simp[a,b,c,d,e]
theorem q4y {d:Door} {i o:E} (hd:doorOk d=true) (hi:i.inside=true) (ho:o.outside=true) (hok:(q1m d i o).2.2=true):OpenedP d i o (q1m d i o).1 (q1m d i o).2.1:=by
 obtain⟨hm,hl,h3⟩:=q0i.1 hd
 cases hf:q0w d.flows i o with
 | some k =>
   rw[q66 hf]
   obtain⟨f,h1,rfl,rfl,h4⟩:=q49 hf
   obtain⟨a,b,c,e,g⟩:=q1u hd h1
   have hk:k<d.flows.length:=(List.getElem?_eq_some_iff.1 h1).1
   have hg:d.flows.getD k default=f:=by simp[List.getD,h1]
   exact⟨hm,(q7e hm _).2 a,by simp,hk,by rw[hg];exact⟨rfl,rfl⟩,by rw[hg];exact c,by rw[hg];exact e,hd⟩
 | none =>
   cases h2:(mOut d.map i).2.2 with
   | false=>rw[q8l hf h2] at hok;cases hok
   | true =>
     by_cases h4:d.flows.length<4
     ·rw[q4v hf h2 h4]
      have hm':=qdy hm hi
      have ha:=q7x h2
      have hg:(d.flows++[Flw.mk i o .zero .zero]).getD d.flows.length default=⟨i,o,.zero,.zero⟩:=by simp[List.getD]
      refine⟨hm',(q7e hm' _).2 ha,by simp,by simp,by rw[hg];exact⟨rfl,rfl⟩,by rw[hg];exact q2k,by rw[hg];exact q2k, ?_⟩
      refine q9f hm' (by simp;omega) λk f hk=>?_
      by_cases hkl:k<d.flows.length
      ·rw[List.getElem?_append_left hkl] at hk
       obtain⟨a,b,c,e,g⟩:=q1u hd hk
       refine⟨qbg a,b,c,e, ?_⟩
       rw[List.take_append_of_le_length (by omega)];exact g
      ·have:=(List.getElem?_eq_some_iff.1 hk).1
       simp only[zA,zC,zN] at this
       obtain rfl:k=d.flows.length:=by omega
       rw[List.getElem?_append_right (Nat.le_refl _)] at hk
       simp only[Nat.sub_self,List.getElem?_cons_zero,zS] at hk
       subst hk
       refine⟨ha,ho,q2k,q2k, ?_⟩
       rw[List.take_left' rfl]
       exact q6j.1 hf
     ·exfalso
      rcases hmo:mOut d.map i with⟨m,n,ok⟩
      rw[hmo] at h2
      simp only at h2
      subst h2
      simp[q1m,q5q,hf,hmo,h4] at hok
theorem qka {d:Door} {m:List Pair} {k:Nat} {f g:Flw} (hd:doorOk d=true) (hf:d.flows[k]?=some f) (hm:mapOk m=true) (hsub:∀e,d.map.any (λp=>decide (p.ins=e))=true→m.any (λp=>decide (p.ins=e))=true)
 (h1:g.ins=f.ins) (h2:g.out=f.out) (h3:strmOk g.up=true) (h4:strmOk g.down=true):doorOk ⟨m,d.flows.set k g⟩=true:=by
 obtain⟨_,hl,_⟩:=q0i.1 hd
 refine q9f hm (by simpa using hl) λj x hj=>?_
 have hsame:∀j i o,((d.flows.set k g).take j).any (q2v i o)=(d.flows.take j).any (q2v i o):=λj i o=>by
  have hkl:k<d.flows.length:=(List.getElem?_eq_some_iff.1 hf).1
  have e1:(d.flows.set k g).map (q2v i o)=d.flows.map (q2v i o):=by
   rw[List.map_set]
   have:q2v i o g=(d.flows.map (q2v i o))[k]'(by simpa using hkl):=by
    rw[List.getElem_map]
    have hfe:d.flows[k]=f:=by rw[zE hkl] at hf;exact Option.some.inj hf
    rw[hfe,q2v,q2v,h1,h2]
   rw[this,List.set_getElem_self]
  have e2:∀l:List Flw,(l.take j).any (q2v i o)=((l.map (q2v i o)).take j).any id:=λl=>by rw[←List.map_take,List.any_map];rfl
  rw[e2,e1,←e2]
 rw[hsame]
 by_cases hjk:j=k
 ·subst hjk
  have hkl:j<d.flows.length:=(List.getElem?_eq_some_iff.1 hf).1
  rw[List.getElem?_set_self hkl] at hj
  cases hj
  obtain⟨a,b,c,e,q⟩:=q1u hd hf
  rw[h1,h2]
  exact⟨hsub _ a,b,h3,h4,q⟩
 ·rw[List.getElem?_set_ne (by omega)] at hj
  obtain⟨a,b,c,e,q⟩:=q1u hd hj
  exact⟨hsub _ a,b,c,e,q⟩
def Flw.at (d:Door) (k:Nat):Flw:=d.flows.getD k default
def q6w (x:Door) (k:Nat) (p:Pk):Door×Option Pk :=
 if p.kind=2 then
  if p.at_>(sOut (Flw.at x k).down).length then(x,none) else(x,some ⟨2,⟨9,portOf x.map p.frm⟩,p.to,q2c (Flw.at x k).down.parts p.at_,[]⟩)
 else if(put x.map (Flw.at x k).up p.at_ p.text true).2.2=false then(x,none)
 else(⟨(put x.map (Flw.at x k).up p.at_ p.text true).1,x.flows.set k { Flw.at x k with up:=(put x.map (Flw.at x k).up p.at_ p.text true).2.1 }⟩,
  (q1n (Flw.at x k).up (put x.map (Flw.at x k).up p.at_ p.text true).2.1 p).map λq=>{ q with frm:=⟨9,portOf x.map p.frm⟩ })
theorem q6k {d:Door} {p:Pk} (h:(q1m d p.frm p.to).2.2=false):q8h d p=(d,none):=by
 unfold q1m at h
 cases ho:q5q d p.frm p.to with
 | none=>simp[q8h,ho]
 | some x=>rw[ho] at h;cases h
theorem q4n {d:Door} {p:Pk} (h:(q1m d p.frm p.to).2.2=true) (hk:(q1m d p.frm p.to).2.1<(q1m d p.frm p.to).1.flows.length) :
 q8h d p=q6w (q1m d p.frm p.to).1 (q1m d p.frm p.to).2.1 p:=by
 unfold q1m at h hk ⊢
 cases ho:q5q d p.frm p.to with
 | none=>rw[ho] at h;cases h
 | some x =>
   obtain⟨x,k⟩:=x
   rw[ho] at hk
   simp only at hk ⊢
   have hf:x.flows[k]?=some (Flw.at x k):=by simp[Flw.at,List.getD,hk]
   simp only[q8h,ho,hf,q6w]
   split
   ·rfl
   ·rcases hp:put x.map (Flw.at x k).up p.at_ p.text true with⟨m,s,ok⟩
    cases ok<;>simp
def inK (x:Door) (k:Nat) (i:E) (p:Pk):Door×Option Pk :=
 if p.kind=2 then
  if p.at_>(sOut (Flw.at x k).up).length then(x,none) else(x,some ⟨2,p.frm,i,q2c (Flw.at x k).up.parts p.at_,[]⟩)
 else if(put x.map (Flw.at x k).down p.at_ p.text false).2.2=false then(x,none)
 else(⟨x.map,x.flows.set k { Flw.at x k with down:=(put x.map (Flw.at x k).down p.at_ p.text false).2.1 }⟩,
  (q1n (Flw.at x k).down (put x.map (Flw.at x k).down p.at_ p.text false).2.1 p).map λq=>{ q with to:=i })
theorem q59 {d:Door} {p:Pk} (h:q0p d.map p.to.p=none):dIn d p=(d,none):=by simp[dIn,h]
theorem q52 {d:Door} {p:Pk} {i:E} (h:q0p d.map p.to.p=some i) (h2:q0w d.flows i p.frm=none):dIn d p=(d,none):=by simp[dIn,h,h2]
theorem q54 {d:Door} {p:Pk} {i:E} {k:Nat} (h:q0p d.map p.to.p=some i) (h2:q0w d.flows i p.frm=some k):k<d.flows.length∧dIn d p=inK d k i p:=by
 obtain⟨f,h3,_⟩:=q49 h2
 have hk:k<d.flows.length:=(List.getElem?_eq_some_iff.1 h3).1
 refine⟨hk, ?_⟩
 have hf:d.flows[k]?=some (Flw.at d k):=by simp[Flw.at,List.getD,hk]
 simp only[dIn,h,h2,hf,inK]
 split
 ·rfl
 ·rcases hp:put d.map (Flw.at d k).down p.at_ p.text false with⟨m,s,ok⟩
  cases ok<;>simp
structure PkP (p:Pk):Prop where
 at_:0≤p.at_∧p.at_≤999
 len:p.text.length≤40
 tx:p.kind=2∨txOk p.text=true
 ack:p.kind=2→p.text=[]
 kd:p.kind=1∨p.kind=2
theorem qse {p:Pk} (h:qhi p=true):PkP p:=by
 simp only[qhi,Bool.and_eq_true,Bool.or_eq_true,decide_eq_true_eq,within_iff] at h
 obtain⟨⟨_,h1⟩,h2|h2⟩:=h
 ·exact⟨⟨h1.1,by omega⟩,q5x h2.1.2,.inr h2.1.2,λh=>(by rw[h2.1.1] at h;cases h),.inl h2.1.1⟩
 ·have:p.text=[]:=by simpa using h2.2
  exact⟨⟨h1.1,by omega⟩,by simp[this],.inl h2.1,λ_=>this,.inr h2.1⟩
theorem qn4 {m:List Pair} {s:Strm} {n:Int} {t:B} {out:Bool}:∀e,m.any (λp=>decide (p.ins=e))=true→(put m s n t out).1.any (λp=>decide (p.ins=e))=true:=by
 intro e h
 unfold put
 split
 ·have key:∀(l:List Pc) (m:List Pair) (s:B),m.any (λp=>decide (p.ins=e))=true→(turned m l s out).1.any (λp=>decide (p.ins=e))=true:=by
   intro l
   induction l with
   | nil=>intro m s h;exact h
   | cons q l ih =>
     intro m s h
     simp only[turned]
     refine ih _ _ ?_
     cases out
     ·exact h
     ·simp only[turn,cond_true,q0o]
      split
      ·have:=qbg (e:=q.e) h
       rcases hmo:mOut m q.e with⟨x,port,ok⟩
       rw[hmo] at this
       cases ok
       ·exact h
       ·exact this
      ·exact h
  exact key _ _ _ h
 ·exact h
theorem qlp {x:Door} {k:Nat} {p:Pk} (hd:doorOk x=true) (hk:k<x.flows.length) (hp:PkP p):doorOk (q6w x k p).1=true∧(q6w x k p).1.flows.length=x.flows.length:=by
 have hf:x.flows[k]?=some (Flw.at x k):=by simp[Flw.at,List.getD,hk]
 obtain⟨_,_,hu,hdn,_⟩:=q1u hd hf
 unfold q6w
 split
 ·split<;>exact⟨hd,rfl⟩
 ·rename_i hkd
  split
  ·exact⟨hd,rfl⟩
  ·obtain⟨p1,p2⟩:=q45 (out:=true) (q0i.1 hd).1 hu (hp.tx.resolve_left hkd) hp.at_.1
   exact⟨qka hd hf p1 qn4 rfl rfl p2 hdn,by simp⟩
theorem qwr {x:Door} {k:Nat} {i:E} {p:Pk} (hd:doorOk x=true) (hk:k<x.flows.length) (hp:PkP p):doorOk (inK x k i p).1=true∧(inK x k i p).1.flows.length=x.flows.length∧(inK x k i p).1.map=x.map:=by
 have hf:x.flows[k]?=some (Flw.at x k):=by simp[Flw.at,List.getD,hk]
 obtain⟨_,_,hu,hdn,_⟩:=q1u hd hf
 unfold inK
 split
 ·split<;>exact⟨hd,rfl,rfl⟩
 ·rename_i hkd
  split
  ·exact⟨hd,rfl,rfl⟩
  ·obtain⟨p1,p2⟩:=q45 (out:=false) (q0i.1 hd).1 hdn (hp.tx.resolve_left hkd) hp.at_.1
   exact⟨qka hd hf (q0i.1 hd).1 (λe h=>h) rfl rfl hu p2,by simp,rfl⟩
theorem qie {d:Door} {i o:E} (h:(q1m d i o).2.2=false):(q1m d i o).1=d:=by
 unfold q1m at h ⊢
 cases ho:q5q d i o with
 | none=>rfl
 | some x=>rw[ho] at h;cases h
theorem qnm {d:Door} {p:Pk} (hd:doorOk d=true) (hp:PkP p) (h1:p.outward=true):doorOk (q8h d p).1=true∧(q8h d p).1.flows.length≤d.flows.length+1:=by
 simp only[Pk.outward,Bool.and_eq_true] at h1
 cases ho:(q1m d p.frm p.to).2.2 with
 | false=>rw[q6k ho];exact⟨hd,by simp⟩
 | true =>
   have hx:=q4y hd h1.1 h1.2 ho
   rw[q4n ho hx.kl]
   have:=qlp hx.ok hx.kl hp
   exact⟨this.1,by rw[this.2];exact hx.len⟩
theorem qv8 {d:Door} {p:Pk} (hd:doorOk d=true) (hp:PkP p):doorOk (dIn d p).1=true∧(dIn d p).1.flows.length=d.flows.length:=by
 cases h1:q0p d.map p.to.p with
 | none=>rw[q59 h1];exact⟨hd,rfl⟩
 | some i =>
   cases h2:q0w d.flows i p.frm with
   | none=>rw[q52 h1 h2];exact⟨hd,rfl⟩
   | some k =>
     obtain⟨hk,he⟩:=q54 h1 h2
     rw[he]
     have:=qwr (i:=i) hd hk hp
     exact⟨this.1,this.2.1⟩
theorem qb9 {d:Door} {p:Pk} (hd:doorOk d=true) (hp:PkP p):doorOk (q1a d p).1=true∧(q1a d p).1.flows.length≤d.flows.length+1:=by
 unfold q1a
 split
 ·rename_i h;exact qnm hd hp h
 ·split
  ·have:=qv8 hd hp;exact⟨this.1,by omega⟩
  ·exact⟨hd,by simp⟩
theorem q9n (was is:Strm) (p:Pk) (i:E):q1n was is { p with to:=i }=(q1n was is p).map λq=>{ q with to:=i }:=by
 have h3:∀p:Pk,q1n was is p=if q0x is.parts p.at_≥toR was is p then none else if toR was is p - q0x is.parts p.at_≤40 then some { p with at_:=q0x is.parts p.at_,text:=((sOut is).take (toR was is p).toNat).drop (q0x is.parts p.at_).toNat } else none:=λp=>rfl
 rw[h3,h3]
 have:toR was is { p with to:=i }=toR was is p:=rfl
 rw[this]
 simp only
 split
 ·rfl
 ·split<;>rfl
theorem q72 (was is:Strm) (p:Pk) (i:E):q1n was is { p with frm:=i }=(q1n was is p).map λq=>{ q with frm:=i }:=by
 have h3:∀p:Pk,q1n was is p=if q0x is.parts p.at_≥toR was is p then none else if toR was is p - q0x is.parts p.at_≤40 then some { p with at_:=q0x is.parts p.at_,text:=((sOut is).take (toR was is p).toNat).drop (q0x is.parts p.at_).toNat } else none:=λp=>rfl
 rw[h3,h3]
 have:toR was is { p with frm:=i }=toR was is p:=rfl
 rw[this]
 simp only
 split
 ·rfl
 ·split<;>rfl
theorem qby (m:List Pair) (s:Strm) (n:Int) (t:B):(put m s n t false).1=m:=by
 have key:∀(l:List Pc) (m:List Pair) (s:B),(turned m l s false).1=m:=by
  intro l
  induction l with
  | nil=>intro m s;rfl
  | cons q l ih=>intro m s;simp only[turned];rw[ih];rfl
 unfold put
 split
 ·exact key _ _ _
 ·rfl
theorem q1h {c:Conv}:convOk c=true↔(c.ins.inside=true∧c.out.outside=true∧q42 c.up=true∧q42 c.down=true∧qv5 c.up=true)∧(0≤c.upAck∧c.upAck≤c.up.length)∧(0≤c.downAck∧c.downAck≤c.down.length)∧txOk c.upGot=true∧txOk c.downGot=true:=by
 unfold convOk q1f
 split
 ·rename_i h
  simp only[Bool.and_eq_true] at h
  simp[within_iff,h,and_assoc]
 ·rename_i h
  simp only[Bool.and_eq_true,not_and] at h
  simp only[Option.isSome_none,Bool.false_and,Bool.false_eq_true,false_iff]
  rintro⟨⟨a,b,c,d,e⟩,_⟩
  exact h ⟨⟨⟨a,b⟩,c⟩,d⟩ e
theorem q3t {t:B} (h:q42 t=true):t.length≤24∧txOk t=true∧held t=0:=by
 simpa[q42,and_assoc] using h
structure CvB (c:Conv):Prop where
 up:c.up.length≤24
 down:c.down.length≤24
 upGot:c.upGot.length≤40
 downGot:c.downGot.length≤40
 upAck:0≤c.upAck∧c.upAck≤24
 downAck:0≤c.downAck∧c.downAck≤24
theorem q3f {c:Conv} (h:convOk c=true):CvB c:=by
 obtain⟨⟨_,_,h3,h4,_⟩,h6,h7,h8,h9⟩:=q1h.1 h
 have:=(q3t h3).1
 have:=(q3t h4).1
 exact⟨by omega,by omega,q5x h8,q5x h9,by omega,by omega⟩
theorem q2e {e:E} (h:e.outside=true):e.inside=false:=by
 cases hi:e.inside with
 | false=>rfl
 | true=>have:=E.inside_iff.1 hi;have:=E.outside_iff.1 h;omega
structure NetP (cs:List Conv) (p:Pk):Prop where
 pk:PkP p
 c:p.frm.inside=true→∃c∈cs,p.frm=c.ins∧p.to=c.out
structure WI (w:World):Prop where
 cv:∀c∈w.convs,convOk c=true
 cl:w.convs.length≤2
 door:doorOk w.door=true
 fl:∀f∈w.door.flows,∃c∈w.convs,f.ins=c.ins∧f.out=c.out
 nl:w.nets.length≤10
 net:∀p∈w.nets,NetP w.convs p
theorem qhn {cs:List Conv} {fs:List Flw} (hl:cs.length≤2) (h:∀f∈fs,∃c∈cs,f.ins=c.ins∧f.out=c.out)
 (hd:∀(j k:Nat) f g,j<k→fs[j]?=some f→fs[k]?=some g→¬(f.ins=g.ins∧f.out=g.out)):fs.length≤2:=by
 match fs,cs,hl with
 | [],_,_=>simp
 | [_],_,_=>simp
 | [_,_],_,_=>simp
 | a::b::c::r,cs,hl =>
   exfalso
   have h1:=hd 0 1 a b (by omega) rfl rfl
   have h2:=hd 0 2 a c (by omega) rfl rfl
   have h3:=hd 1 2 b c (by omega) rfl rfl
   obtain⟨x,hx,x1,x2⟩:=h a (by simp)
   obtain⟨y,hy,y1,y2⟩:=h b (by simp)
   obtain⟨z,hz,z1,z2⟩:=h c (by simp)
   match cs,hl with
   | [],_=>cases hx
   | [u],_ =>
     simp only[List.mem_singleton] at hx hy hz
     subst hx;subst hy;subst hz
     exact h1 ⟨x1.trans y1.symm,x2.trans y2.symm⟩
   | [u,v],_ =>
     simp only[List.mem_cons,List.not_mem_nil,or_false] at hx hy hz
     rcases hx with rfl|rfl<;>rcases hy with rfl|rfl<;>rcases hz with rfl|rfl<;>first
      | exact h1 ⟨x1.trans y1.symm,x2.trans y2.symm⟩
      | exact h2 ⟨x1.trans z1.symm,x2.trans z2.symm⟩
      | exact h3 ⟨y1.trans z1.symm,y2.trans z2.symm⟩
theorem q5i {d:Door} (h:doorOk d=true) (j k:Nat) (f g:Flw) (hjk:j<k) (hf:d.flows[j]?=some f) (hg:d.flows[k]?=some g):¬(f.ins=g.ins∧f.out=g.out):=by
 obtain⟨_,_,_,_,ha⟩:=q1u h hg
 rintro⟨e1,e2⟩
 have hm:f∈d.flows.take k:=List.mem_iff_getElem?.2 ⟨j,by rw[List.getElem?_take,if_pos hjk];exact hf⟩
 have:=List.any_eq_false.1 ha f hm
 simp[q2v,e1,e2] at this
theorem WI.flows2 {w:World} (h:WI w):w.door.flows.length≤2:=qhn h.cl h.fl (q5i h.door)
theorem qnf {s:Strm} (h:StrB s):(sOut s).all okB=true:=by
 simp only[sOut,List.all_flatMap,List.all_eq_true]
 intro p hp
 have:=(h.2.2 p hp).2.2.2
 simp only[txOk,Bool.and_eq_true] at this
 exact List.all_eq_true.1 this.1
theorem qc1 {was is:Strm} {p q:Pk} (hs:StrB is) (hp:PkP p) (hk:p.kind≠2) (h:q1n was is p=some q):PkP q∧q.frm=p.frm∧q.to=p.to∧q.kind=p.kind:=by
 have h1:=q1z (l:=is.parts) p.at_
 have h2:=qc8 was is p
 have h3:=q29 hs
 have e:q1n was is p=if q0x is.parts p.at_≥toR was is p then none else if toR was is p - q0x is.parts p.at_≤40 then some { p with at_:=q0x is.parts p.at_,text:=((sOut is).take (toR was is p).toNat).drop (q0x is.parts p.at_).toNat } else none:=rfl
 rw[e] at h
 have h1':q0x is.parts p.at_≤((sOut is).length:Int):=h1.2
 have h1'':=h1.1
 generalize q0x is.parts p.at_=a at *
 generalize toR was is p=b at *
 split at h
 ·cases h
 ·split at h
  ·cases h
   have hl:(((sOut is).take b.toNat).drop a.toNat).length≤40:=by simp only[List.length_drop,List.length_take];omega
   refine⟨⟨⟨h1'',by simp only;omega⟩,hl,.inr ?_,λh=>absurd h hk,hp.kd⟩,rfl,rfl,rfl⟩
   simp only[txOk,Bool.and_eq_true,decide_eq_true_eq]
   exact⟨q3r (q62 (qnf hs)),hl⟩
  ·cases h
theorem qf7 {l:List Part} (h:∀p∈l,(1≤p.size∧p.size≤6)) (hl:l.length≤40) (n:Int):0≤q2c l n∧q2c l n≤240:=by
 have:=qf6 (l:=l) (λp hp=>by have:=h p hp;omega) n
 omega
theorem q77 {d:Door} {p:Pk}:∀f∈(q8h d p).1.flows,(f.ins=p.frm∧f.out=p.to)∨∃g∈d.flows,f.ins=g.ins∧f.out=g.out:=by
 have hin:∀f∈d.flows,(f.ins=p.frm∧f.out=p.to)∨∃g∈d.flows,f.ins=g.ins∧f.out=g.out:=λf hf=>.inr ⟨f,hf,rfl,rfl⟩
 have hop:∀x k,q5q d p.frm p.to=some (x,k)→∀f∈x.flows,(f.ins=p.frm∧f.out=p.to)∨∃g∈d.flows,f.ins=g.ins∧f.out=g.out:=by
  intro x k h
  unfold q5q at h
  split at h
  ·cases h;exact hin
  ·split at h
   ·split at h
    ·cases h
     intro f hf
     rcases List.mem_append.1 hf with hf|hf
     ·exact hin f hf
     ·simp only[List.mem_singleton] at hf;subst hf;exact .inl ⟨rfl,rfl⟩
    ·cases h
   ·cases h
 unfold q8h
 split
 ·exact hin
 ·rename_i x k ho
  have hx:=hop x k ho
  split
  ·exact hx
  ·rename_i f hf
   split
   ·split<;>exact hx
   ·split
    ·exact hx
    ·intro g hg
     simp only at hg
     rcases List.mem_or_eq_of_mem_set hg with hg|rfl
     ·exact hx g hg
     ·exact hx f (List.mem_of_getElem? hf)
theorem q9a {d:Door} {p:Pk}:∀f∈(dIn d p).1.flows,∃g∈d.flows,f.ins=g.ins∧f.out=g.out:=by
 have hin:∀f∈d.flows,∃g∈d.flows,f.ins=g.ins∧f.out=g.out:=λf hf=>⟨f,hf,rfl,rfl⟩
 unfold dIn
 split
 ·exact hin
 ·split
  ·exact hin
  ·split
   ·exact hin
   ·rename_i f hf
    split
    ·split<;>exact hin
    ·split
     ·exact hin
     ·intro g hg
      simp only at hg
      rcases List.mem_or_eq_of_mem_set hg with hg|rfl
      ·exact hin g hg
      ·exact⟨f,List.mem_of_getElem? hf,rfl,rfl⟩
theorem qk9 {x:Door} {k:Nat} {p q:Pk} (hd:doorOk x=true) (hk:k<x.flows.length) (hp:PkP p) (h:(q6w x k p).2=some q):PkP q∧q.frm.inside=false∧q.frm=⟨9,portOf x.map p.frm⟩∧q.to=p.to∧q.kind=p.kind:=by
 have hf:x.flows[k]?=some (Flw.at x k):=by simp[Flw.at,List.getD,hk]
 obtain⟨_,_,hu,hdn,_⟩:=q1u hd hf
 have hn:∀n,(⟨9,n⟩:E).inside=false:=λn=>by simp[E.inside,q0m]
 unfold q6w at h
 split at h
 ·rename_i hk2
  split at h
  ·cases h
  ·cases h
   have hb:=q0k hdn
   have:=qf7 (λp hp=>(hb.2.2 p hp).1) hb.2.1 p.at_
   exact⟨⟨⟨this.1,by simp only;omega⟩,by simp,.inl rfl,λ_=>rfl,.inr rfl⟩,hn _,rfl,rfl,hk2.symm⟩
 ·rename_i hkd
  split at h
  ·cases h
  ·obtain⟨p1,p2⟩:=q45 (out:=true) (q0i.1 hd).1 hu (hp.tx.resolve_left hkd) hp.at_.1
   simp only[zM] at h
   obtain⟨q',hq,rfl⟩:=h
   obtain⟨h1,h2,h3,h4⟩:=qc1 (q0k p2) hp hkd hq
   exact⟨⟨h1.at_,h1.len,h1.tx,h1.ack,h1.kd⟩,hn _,rfl,h3,h4⟩
theorem qto {x:Door} {k:Nat} {i:E} {p q:Pk} (hd:doorOk x=true) (hk:k<x.flows.length) (hp:PkP p) (h:(inK x k i p).2=some q):PkP q∧q.frm=p.frm∧q.to=i∧q.kind=p.kind:=by
 have hf:x.flows[k]?=some (Flw.at x k):=by simp[Flw.at,List.getD,hk]
 obtain⟨_,_,hu,hdn,_⟩:=q1u hd hf
 unfold inK at h
 split at h
 ·rename_i hk2
  split at h
  ·cases h
  ·cases h
   have hb:=q0k hu
   have:=qf7 (λp hp=>(hb.2.2 p hp).1) hb.2.1 p.at_
   exact⟨⟨⟨this.1,by simp only;omega⟩,by simp,.inl rfl,λ_=>rfl,.inr rfl⟩,rfl,rfl,hk2.symm⟩
 ·rename_i hkd
  split at h
  ·cases h
  ·obtain⟨p1,p2⟩:=q45 (out:=false) (q0i.1 hd).1 hdn (hp.tx.resolve_left hkd) hp.at_.1
   simp only[zM] at h
   obtain⟨q',hq,rfl⟩:=h
   obtain⟨h1,h2,h3,h4⟩:=qc1 (q0k p2) hp hkd hq
   exact⟨⟨h1.at_,h1.len,h1.tx,h1.ack,h1.kd⟩,h2,rfl,h4⟩
theorem qba {c:B} {n:Int} {t:B} (hc:txOk c=true) (ht:txOk t=true) (hn:0≤n):txOk (q0a c n t).1=true:=by
 cases h:(q0a c n t).2 with
 | true=>exact q9b hc ht hn h
 | false =>
   have:(q0a c n t).1=c:=by
    revert h;unfold q0a;split
    ·intro;rfl
    ·split<;>(intro h;cases h)
   rw[this];exact hc
theorem q90 (c:Conv) (inward:Bool) (p:Pk):(q40 c inward p).1.ins=c.ins∧(q40 c inward p).1.out=c.out∧(q40 c inward p).1.up=c.up∧(q40 c inward p).1.down=c.down:=by
 unfold q40
 cases inward<;>simp only[cond_true,cond_false]<;>split<;>(try split)<;>exact⟨rfl,rfl,rfl,rfl⟩
theorem qa3 {c:Conv} {inward:Bool} {p:Pk} (hc:convOk c=true) (hp:PkP p):convOk (q40 c inward p).1=true:=by
 obtain⟨h1,h2,h3,h4,h5⟩:=q1h.1 hc
 have hp1:=hp.at_
 unfold q40
 cases inward<;>simp only[cond_true,cond_false]<;>split
 ·split
  ·exact q1h.2 ⟨h1,h2,by simp only;omega,h4,h5⟩
  ·rename_i hk
   exact q1h.2 ⟨h1,h2,h3,qba h4 (hp.tx.resolve_left hk) hp1.1,h5⟩
 ·exact hc
 ·split
  ·exact q1h.2 ⟨h1,by simp only;omega,h3,h4,h5⟩
  ·rename_i hk
   exact q1h.2 ⟨h1,h2,h3,h4,qba h5 (hp.tx.resolve_left hk) hp1.1⟩
 ·exact hc
theorem qbq {c:Conv} {inward:Bool} {p q:Pk} (hc:convOk c=true) (hp:PkP p) (h:(q40 c inward p).2=some q):PkP q∧q.kind=2∧q.frm=p.to∧q.to=p.frm∧(bif inward then p.frm=c.out∧p.to=c.ins else p.to=c.out∧p.frm.door=true):=by
 have hh:=qa3 (inward:=inward) hc hp
 revert hh h
 unfold q40
 cases inward<;>simp only[cond_true,cond_false]<;>split
 ·rename_i hb
  simp only[Bool.and_eq_true,decide_eq_true_eq] at hb
  split
  ·intro h;cases h
  ·intro h hh;cases h
   have:=(q3f hh).upGot
   exact⟨⟨by simp only at this ⊢;omega,by simp,.inl rfl,λ_=>rfl,.inr rfl⟩,rfl,rfl,rfl,hb⟩
 ·intro h;cases h
 ·rename_i hb
  simp only[Bool.and_eq_true,decide_eq_true_eq] at hb
  split
  ·intro h;cases h
  ·intro h hh;cases h
   have:=(q3f hh).downGot
   exact⟨⟨by simp only at this ⊢;omega,by simp,.inl rfl,λ_=>rfl,.inr rfl⟩,rfl,rfl,rfl,hb⟩
 ·intro h;cases h
theorem q97 {w:World} {p:Pk} {i:Nat} {b:Bool} (h:q5l w p=some (i,b)):∃c,w.convs[i]?=some c∧b=(decide (p.to=c.ins)&&decide (p.frm=c.out)):=by
 unfold q5l at h
 split at h
 ·split at h
  ·rename_i c hc
   cases h
   exact⟨c,hc,rfl⟩
  ·cases h
 ·cases h
theorem NetP.set {cs:List Conv} {i:Nat} {c x:Conv} {p:Pk} (hi:cs[i]?=some c) (h1:x.ins=c.ins) (h2:x.out=c.out) (h:NetP cs p):NetP (cs.set i x) p:=by
 refine⟨h.pk,λhin=>?_⟩
 obtain⟨c',hc',h3,h4⟩:=h.c hin
 obtain⟨j,hj⟩:=List.mem_iff_getElem?.1 hc'
 by_cases hij:i=j
 ·subst hij
  rw[hi] at hj;cases hj
  have hl:=(List.getElem?_eq_some_iff.1 hi).1
  exact⟨x,List.mem_set hl x,by rw[h3,h1],by rw[h4,h2]⟩
 ·exact⟨c',List.mem_iff_getElem?.2 ⟨j,by rw[List.getElem?_set_ne hij];exact hj⟩,h3,h4⟩
theorem WI.setC {w:World} (h:WI w) {i:Nat} {c x:Conv} (hi:w.convs[i]?=some c) (h1:x.ins=c.ins) (h2:x.out=c.out) (hx:convOk x=true):WI { w with convs:=w.convs.set i x }:=by
 refine⟨λy hy=>?_,by simpa using h.cl,h.door,λf hf=>?_,h.nl,λp hp=>(h.net p hp).set hi h1 h2⟩
 ·rcases List.mem_or_eq_of_mem_set hy with hy|rfl
  ·exact h.cv y hy
  ·exact hx
 ·obtain⟨c',hc',h3,h4⟩:=h.fl f hf
  obtain⟨j,hj⟩:=List.mem_iff_getElem?.1 hc'
  by_cases hij:i=j
  ·subst hij
   rw[hi] at hj;cases hj
   have hl:=(List.getElem?_eq_some_iff.1 hi).1
   exact⟨x,List.mem_set hl x,by rw[h3,h1],by rw[h4,h2]⟩
  ·exact⟨c',List.mem_iff_getElem?.2 ⟨j,by simp only;rw[List.getElem?_set_ne hij];exact hj⟩,h3,h4⟩
theorem qnk {cs:List Conv} {d:Door} {p q:Pk} (hd:doorOk d=true) (hp:NetP cs p) (h:(q1a d p).2=some q):NetP cs q:=by
 unfold q1a at h
 split at h
 ·rename_i ho
  simp only[Pk.outward,Bool.and_eq_true] at ho
  cases hok:(q1m d p.frm p.to).2.2 with
  | false=>rw[q6k hok] at h;cases h
  | true =>
    have hx:=q4y hd ho.1 ho.2 hok
    rw[q4n hok hx.kl] at h
    obtain⟨h1,h2,_⟩:=qk9 hx.ok hx.kl hp.pk h
    exact⟨h1,λhin=>by rw[h2] at hin;cases hin⟩
 ·split at h
  ·rename_i hi
   simp only[Pk.inward,Bool.and_eq_true] at hi
   cases h1:q0p d.map p.to.p with
   | none=>rw[q59 h1] at h;cases h
   | some i =>
     cases h2:q0w d.flows i p.frm with
     | none=>rw[q52 h1 h2] at h;cases h
     | some k =>
       obtain⟨hk,he⟩:=q54 h1 h2
       rw[he] at h
       obtain⟨h3,h4,_⟩:=qto hd hk hp.pk h
       exact⟨h3,λhin=>by rw[h4,q2e hi.1] at hin;cases hin⟩
  ·cases h
theorem qjt {w:World} {p:Pk} (h:WI w) (hp:NetP w.convs p):WI (q1y w p).1∧∀q,(q1y w p).2=some q→NetP (q1y w p).1.convs q:=by
 unfold q1y
 split
 ·refine⟨⟨h.cv,h.cl,(qb9 h.door hp.pk).1,λf hf=>?_,h.nl,h.net⟩,λq hq=>qnk h.door hp hq⟩
  simp only at hf
  unfold q1a at hf
  split at hf
  ·rename_i ho
   simp only[Pk.outward,Bool.and_eq_true] at ho
   rcases q77 f hf with⟨h1,h2⟩|⟨g,hg,h1,h2⟩
   ·obtain⟨c,hc,h3,h4⟩:=hp.c ho.1
    exact⟨c,hc,by rw[h1,h3],by rw[h2,h4]⟩
   ·obtain⟨c,hc,h3,h4⟩:=h.fl g hg
    exact⟨c,hc,by rw[h1,h3],by rw[h2,h4]⟩
  ·split at hf
   ·obtain⟨g,hg,h1,h2⟩:=q9a f hf
    obtain⟨c,hc,h3,h4⟩:=h.fl g hg
    exact⟨c,hc,by rw[h1,h3],by rw[h2,h4]⟩
   ·exact h.fl f hf
 ·split
  ·exact⟨h,λq hq=>by cases hq⟩
  ·rename_i i b hb
   obtain⟨c,hc,hbe⟩:=q97 hb
   simp only[hc]
   have hcv:=h.cv c (List.mem_of_getElem? hc)
   obtain⟨s1,s2,_,_⟩:=q90 c b p
   refine⟨h.setC hc s1 s2 (qa3 hcv hp.pk),λq hq=>?_⟩
   obtain⟨h1,h2,h3,h4,h5⟩:=qbq hcv hp.pk hq
   refine NetP.set hc s1 s2 ⟨h1,λhin=>?_⟩
   have hcc:=q1h.1 hcv
   cases b with
   | true=>exact⟨c,List.mem_of_getElem? hc,by rw[h3];exact h5.2,by rw[h4];exact h5.1⟩
   | false =>
     rw[h3] at hin
     simp only[cond_false] at h5
     rw[h5.1,q2e hcc.1.2.1] at hin
     cases hin
theorem q6g {w:World} {o:Option Pk} (h:WI w) (hp:∀p,o=some p→NetP w.convs p):WI (q3j w o):=by
 unfold q3j
 cases o with
 | none=>exact h
 | some p =>
   simp only
   split
   ·refine⟨h.cv,h.cl,h.door,h.fl,by simp;omega,λq hq=>?_⟩
    rcases List.mem_append.1 hq with hq|hq
    ·exact h.net q hq
    ·simp only[List.mem_singleton] at hq;subst hq;exact hp _ rfl
   ·exact h
theorem say_P {c:Conv} {up:Bool} {port n m:Int} {p:Pk} (hc:convOk c=true) (h:say c up port n m=some p) :
 PkP p∧p.kind=1∧(bif up then p.frm=c.ins∧p.to=c.out else p.frm=c.out∧p.to=⟨9,port⟩∧(10≤port∧port≤17))∧p.at_=n∧p.text=((bif up then c.up else c.down).drop n.toNat).take (min m ((bif up then c.up else c.down).length - n)).toNat∧(0≤n∧n<(bif up then c.up else c.down).length)∧1≤m:=by
 obtain⟨⟨_,_,h3,h4,_⟩,_⟩:=q1h.1 hc
 unfold say at h
 cases up<;>simp only[Bool.false_eq_true,if_false,if_true,Bool.false_or,Bool.true_or,Bool.and_true] at h<;>split at h
 ·rename_i hg
  cases h
  simp only[Bool.and_eq_true,within_iff,decide_eq_true_eq,E.door_iff] at hg
  obtain⟨a,b,_⟩:=q3t h4
  have b':=b
  simp only[txOk,Bool.and_eq_true,decide_eq_true_eq] at b'
  have hl:((c.down.drop n.toNat).take (min m (c.down.length - n)).toNat).length≤40:=by simp only[List.length_take,List.length_drop];omega
  refine⟨⟨by simp only;omega,hl,.inr ?_,(λh=>by cases h),.inl rfl⟩,rfl,⟨rfl,rfl,hg.2.2⟩,rfl,rfl,by simp only[cond_false];omega,hg.1.2⟩
  simp only[txOk,Bool.and_eq_true,decide_eq_true_eq]
  exact⟨q62 (q3r b'.1),hl⟩
 ·cases h
 ·rename_i hg
  cases h
  simp only[Bool.and_eq_true,within_iff,decide_eq_true_eq] at hg
  obtain⟨a,b,_⟩:=q3t h3
  have b':=b
  simp only[txOk,Bool.and_eq_true,decide_eq_true_eq] at b'
  have hl:((c.up.drop n.toNat).take (min m (c.up.length - n)).toNat).length≤40:=by simp only[List.length_take,List.length_drop];omega
  refine⟨⟨by simp only;omega,hl,.inr ?_,(λh=>by cases h),.inl rfl⟩,rfl,⟨rfl,rfl⟩,rfl,rfl,by simp only[cond_true];omega,hg.2⟩
  simp only[txOk,Bool.and_eq_true,decide_eq_true_eq]
  exact⟨q62 (q3r b'.1),hl⟩
 ·cases h
theorem qn9 {cs:List Conv} {c:Conv} {up:Bool} {port n m:Int} {p:Pk} (hm:c∈cs) (hc:convOk c=true) (h:say c up port n m=some p):NetP cs p:=by
 obtain⟨h1,_,h2,_⟩:=say_P hc h
 refine⟨h1,λhin=>?_⟩
 cases up with
 | true=>exact⟨c,hm,h2.1,h2.2⟩
 | false=>simp only[cond_false] at h2;rw[h2.1,q2e (q1h.1 hc).1.2.1] at hin;cases hin
theorem qb8 {w:World} (h:WI w) {up:Bool} {a b c:Int} {p:Pk} (hs:q6v w up a b c=some p):NetP w.convs p:=by
 unfold q6v at hs
 split at hs
 ·split at hs
  ·rename_i cv hcv
   have hm:=List.mem_of_getElem? hcv
   exact qn9 hm (h.cv _ hm) hs
  ·cases hs
 ·cases hs
theorem q92 {w:World} {p:Pk} (h:q1q w p=true):NetP w.convs p:=by
 simp only[q1q,Bool.and_eq_true,Pk.inward] at h
 exact⟨qse h.1.1,λhin=>by rw[q2e h.1.2.1] at hin;cases hin⟩
theorem WI.erase {w:World} (h:WI w) (k:Nat):WI { w with nets:=w.nets.eraseIdx k } :=
 ⟨h.cv,h.cl,h.door,h.fl,by have:=List.length_eraseIdx_le w.nets k;have:=h.nl;simp only;omega,λp hp=>h.net p (List.mem_of_mem_eraseIdx hp)⟩
theorem qbu {w:World} (h:WI w) (e:Ev):WI (wDo w e):=by
 unfold wDo
 simp only
 split
 ·exact q6g h λp hp=>qb8 h hp
 split
 ·exact q6g h λp hp=>qb8 h hp
 split
 ·split
  ·split
   ·rename_i p hp
    have hn:=h.net p (List.mem_of_getElem? hp)
    obtain⟨h1,h2⟩:=qjt (h.erase e.a.toNat) hn
    exact q6g h1 h2
   ·exact h
  ·exact h
 split
 ·split
  ·exact h.erase _
  ·exact h
 split
 ·split
  ·exact q6g h λp hp=>h.net p (List.mem_of_getElem? hp)
  ·exact h
 split
 ·split
  ·rename_i hs
   exact q6g h λp hp=>by cases hp;exact q92 hs
  ·exact h
 ·exact h
theorem q25 {cs:List Conv}:q16 cs=true↔cs.length≤2∧∀i,i<cs.length→q6h cs i=true:=by
 simp[q16,and_comm]
theorem q7y {cs:List Conv} {i:Nat} (h:i<cs.length):q6h cs i=(convOk cs[i]&&!(cs.take i).any λo=>decide (o.ins=cs[i].ins)||decide (o.out=cs[i].out)):=by
 simp[q6h,h]
theorem qa1 {cs:List Conv} (h:q16 cs=true):∀c∈cs,convOk c=true:=λc hc=>by
 obtain⟨i,hi⟩:=List.mem_iff_getElem?.1 hc
 obtain⟨hl,rfl⟩:=List.getElem?_eq_some_iff.1 hi
 have:=(q25.1 h).2 i hl
 rw[q7y hl,Bool.and_eq_true] at this
 exact this.1
theorem q3e {cs:List Conv} {w:World} (h:q17 cs=some w):WI w:=by
 unfold q17 at h
 split at h
 ·split at h
  ·rename_i ht
   cases h
   exact⟨qa1 ht,(q25.1 ht).1,(by decide:doorOk .zero=true),(λf hf=>by cases hf),by simp,(λp hp=>by cases hp)⟩
  ·cases h
 ·cases h
theorem qfx {w:World} (h:WI w):∀es:List Ev,WI (es.foldl wDo w)
 | []=>h
 | e::es=>qfx (qbu h e) es
def q41 (w:World) (p:Pk) (c:Conv):Bool:=(decide (p.to=c.ins)&&decide (p.frm=c.out))||(decide (p.to=c.out)&&p.frm.door&&decide (p.frm.p=portOf w.door.map c.ins))
def q83 (w:World) (p:Pk):World×Option Pk:=match q5l w p with
 | none=>(w,none)
 | some (i,inward)=>match w.convs[i]? with
   | none=>(w,none)
   | some c=>({ w with convs:=w.convs.set i (q40 c inward p).1 },(q40 c inward p).2)
theorem q7r {w:World} {p:Pk} (h:(p.to.door||p.frm.inside)=false):q1y w p=q83 w p:=by
 unfold q1y
 rw[if_neg (by simp[h])]
 rfl
theorem q7g {w:World} {p:Pk} (h:(p.to.door||p.frm.inside)=true):q1y w p=({ w with door:=(q1a w.door p).1 },(q1a w.door p).2):=by
 unfold q1y
 rw[if_pos h]
theorem qbw {w:World} {p:Pk} (h:w.convs.any (q41 w p)=false):q83 w p=(w,none):=by
 have:w.convs.findIdx? (q41 w p)=none:=List.findIdx?_eq_none_iff.2 λx hx=>by simpa using List.any_eq_false.1 h x hx
 have e:q5l w p=none:=by
  unfold q5l
  rw[show(w.convs.findIdx? λc=>(decide (p.to=c.ins)&&decide (p.frm=c.out))||(decide (p.to=c.out)&&p.frm.door&&decide (p.frm.p=portOf w.door.map c.ins)))=none from this]
 unfold q83
 rw[e]
theorem qbr {w:World} {p:Pk} {k:Nat} (hk:k<w.convs.length) (h:(w.convs.take k).any (q41 w p)=false) (hm:q41 w p w.convs[k]=true) :
 q83 w p=({ w with convs:=w.convs.set k (q40 w.convs[k] (decide (p.to=w.convs[k].ins)&&decide (p.frm=w.convs[k].out)) p).1 },(q40 w.convs[k] (decide (p.to=w.convs[k].ins)&&decide (p.frm=w.convs[k].out)) p).2):=by
 have:w.convs.findIdx? (q41 w p)=some k:=by
  refine List.findIdx?_eq_some_iff_getElem.2 ⟨hk,hm,λj hj=>?_⟩
  have:=List.any_eq_false.1 h w.convs[j] (List.mem_iff_getElem?.2 ⟨j,by rw[List.getElem?_take,if_pos hj];exact zE _⟩)
  simpa using this
 have e:q5l w p=some (k,decide (p.to=w.convs[k].ins)&&decide (p.frm=w.convs[k].out)):=by
  unfold q5l
  rw[show(w.convs.findIdx? λc=>(decide (p.to=c.ins)&&decide (p.frm=c.out))||(decide (p.to=c.out)&&p.frm.door&&decide (p.frm.p=portOf w.door.map c.ins)))=some k from this]
  simp only[zE hk]
 unfold q83
 rw[e]
 simp only[zE hk]
theorem qau (w:World) (p:Pk) (c:Conv):q41 w p c=((decide (p.to=c.ins)&&decide (p.frm=c.out))||(decide (p.to=c.out)&&p.frm.door&&decide (p.frm.p=portOf w.door.map c.ins))):=rfl
theorem few {α:Type} [BEq α] [LawfulBEq α]:∀(l L:List α),l.Nodup→(∀x∈l,x∈L)→l.length≤L.length
 | [],_,_,_=>Nat.zero_le _
 | x::l,L,hn,h=>by
   rw[List.nodup_cons] at hn
   have hx:=h x (by simp)
   have:=few l (L.erase x) hn.2 λy hy=>(List.mem_erase_of_ne (λe=>hn.1 (by rw[←e];exact hy))).2 (h y (List.mem_cons_of_mem _ hy))
   rw[List.length_erase_of_mem hx] at this
   have:=List.length_pos_of_mem hx
   simp only[zC]
   omega
structure NetX (X:List (E×E)) (cs:List Conv) (p:Pk):Prop where
 pk:PkP p
 c:p.frm.inside=true→(∃c∈cs,p.frm=c.ins∧p.to=c.out)∨(p.frm,p.to)∈X
structure WX (X:List (E×E)) (w:World):Prop where
 cv:∀c∈w.convs,convOk c=true
 cl:w.convs.length≤2
 xl:X.length≤1
 door:doorOk w.door=true
 fl:∀f∈w.door.flows,(∃c∈w.convs,f.ins=c.ins∧f.out=c.out)∨(f.ins,f.out)∈X
 nl:w.nets.length≤10
 net:∀p∈w.nets,NetX X w.convs p
variable {X:List (E×E)}
theorem NetP.x {cs:List Conv} {p:Pk} (h:NetP cs p):NetX X cs p:=⟨h.pk,λhi=>.inl (h.c hi)⟩
theorem WI.x {w:World} (h:WI w):WX [] w:=⟨h.cv,h.cl,by simp,h.door,λf hf=>.inl (h.fl f hf),h.nl,λp hp=>(h.net p hp).x⟩
theorem WX.flows3 {w:World} (h:WX X w):w.door.flows.length≤3:=by
 have hn:(w.door.flows.map λf=>(f.ins,f.out)).Nodup:=by
  unfold List.Nodup
  rw[List.pairwise_iff_getElem]
  intro i j hi hj hij
  simp only[List.length_map] at hi hj
  simp only[List.getElem_map,ne_eq,Prod.mk.injEq]
  exact q5i h.door i j _ _ hij (zE hi) (zE hj)
 have:=few (w.door.flows.map λf=>(f.ins,f.out)) (w.convs.map (λc=>(c.ins,c.out))++X) hn λx hx=>by
  obtain⟨f,hf,rfl⟩:=List.mem_map.1 hx
  rcases h.fl f hf with⟨c,hc,h1,h2⟩|hX
  ·exact List.mem_append_left _ (List.mem_map.2 ⟨c,hc,by rw[h1,h2]⟩)
  ·exact List.mem_append_right _ hX
 have h1:=h.cl
 have h2:=h.xl
 simp only[List.length_map,zA] at this
 omega
theorem qb2 {cs:List Conv} {i:Nat} {c x:Conv} (hi:cs[i]?=some c) (h1:x.ins=c.ins) (h2:x.out=c.out) {a b:E} (h:∃c∈cs,a=c.ins∧b=c.out):∃c∈cs.set i x,a=c.ins∧b=c.out:=by
 obtain⟨c',hc',h3,h4⟩:=h
 obtain⟨j,hj⟩:=List.mem_iff_getElem?.1 hc'
 by_cases hij:i=j
 ·subst hij
  rw[hi] at hj;cases hj
  have hl:=(List.getElem?_eq_some_iff.1 hi).1
  exact⟨x,List.mem_set hl x,by rw[h3,h1],by rw[h4,h2]⟩
 ·exact⟨c',List.mem_iff_getElem?.2 ⟨j,by rw[List.getElem?_set_ne hij];exact hj⟩,h3,h4⟩
theorem NetX.set {cs:List Conv} {i:Nat} {c x:Conv} {p:Pk} (hi:cs[i]?=some c) (h1:x.ins=c.ins) (h2:x.out=c.out) (h:NetX X cs p):NetX X (cs.set i x) p :=
 ⟨h.pk,λhin=>(h.c hin).imp (qb2 hi h1 h2) id⟩
theorem WX.setC {w:World} (h:WX X w) {i:Nat} {c x:Conv} (hi:w.convs[i]?=some c) (h1:x.ins=c.ins) (h2:x.out=c.out) (hx:convOk x=true):WX X { w with convs:=w.convs.set i x }:=by
 refine⟨λy hy=>?_,by simpa using h.cl,h.xl,h.door,λf hf=>(h.fl f hf).imp (qb2 hi h1 h2) id,h.nl,λp hp=>(h.net p hp).set hi h1 h2⟩
 rcases List.mem_or_eq_of_mem_set hy with hy|rfl
 ·exact h.cv y hy
 ·exact hx
theorem ql1 {cs:List Conv} {d:Door} {p q:Pk} (hd:doorOk d=true) (hp:PkP p) (h:(q1a d p).2=some q):NetX X cs q:=by
 unfold q1a at h
 split at h
 ·rename_i ho
  simp only[Pk.outward,Bool.and_eq_true] at ho
  cases hok:(q1m d p.frm p.to).2.2 with
  | false=>rw[q6k hok] at h;cases h
  | true =>
    have hx:=q4y hd ho.1 ho.2 hok
    rw[q4n hok hx.kl] at h
    obtain⟨h1,h2,_⟩:=qk9 hx.ok hx.kl hp h
    exact⟨h1,λhin=>by rw[h2] at hin;cases hin⟩
 ·split at h
  ·rename_i hi
   simp only[Pk.inward,Bool.and_eq_true] at hi
   cases h1:q0p d.map p.to.p with
   | none=>rw[q59 h1] at h;cases h
   | some i =>
     cases h2:q0w d.flows i p.frm with
     | none=>rw[q52 h1 h2] at h;cases h
     | some k =>
       obtain⟨hk,he⟩:=q54 h1 h2
       rw[he] at h
       obtain⟨h3,h4,_⟩:=qto hd hk hp h
       exact⟨h3,λhin=>by rw[h4,q2e hi.1] at hin;cases hin⟩
  ·cases h
theorem qfz {w:World} {p:Pk} (h:WX X w) (hp:NetX X w.convs p):WX X (q1y w p).1∧∀q,(q1y w p).2=some q→NetX X (q1y w p).1.convs q:=by
 unfold q1y
 split
 ·refine⟨⟨h.cv,h.cl,h.xl,(qb9 h.door hp.pk).1,λf hf=>?_,h.nl,h.net⟩,λq hq=>ql1 h.door hp.pk hq⟩
  simp only at hf
  unfold q1a at hf
  split at hf
  ·rename_i ho
   simp only[Pk.outward,Bool.and_eq_true] at ho
   rcases q77 f hf with⟨h1,h2⟩|⟨g,hg,h1,h2⟩
   ·rw[h1,h2];exact hp.c ho.1
   ·rw[h1,h2];exact h.fl g hg
  ·split at hf
   ·obtain⟨g,hg,h1,h2⟩:=q9a f hf
    rw[h1,h2];exact h.fl g hg
   ·exact h.fl f hf
 ·split
  ·exact⟨h,λq hq=>by cases hq⟩
  ·rename_i i b hb
   obtain⟨c,hc,hbe⟩:=q97 hb
   simp only[hc]
   have hcv:=h.cv c (List.mem_of_getElem? hc)
   obtain⟨s1,s2,_,_⟩:=q90 c b p
   refine⟨h.setC hc s1 s2 (qa3 hcv hp.pk),λq hq=>?_⟩
   obtain⟨h1,h2,h3,h4,h5⟩:=qbq hcv hp.pk hq
   refine NetX.set hc s1 s2 ⟨h1,λhin=>?_⟩
   have hcc:=q1h.1 hcv
   cases b with
   | true=>exact .inl ⟨c,List.mem_of_getElem? hc,by rw[h3];exact h5.2,by rw[h4];exact h5.1⟩
   | false =>
     rw[h3] at hin
     simp only[cond_false] at h5
     rw[h5.1,q2e hcc.1.2.1] at hin
     cases hin
theorem WX.erase {w:World} (h:WX X w) (k:Nat):WX X { w with nets:=w.nets.eraseIdx k } :=
 ⟨h.cv,h.cl,h.xl,h.door,h.fl,by have:=List.length_eraseIdx_le w.nets k;have:=h.nl;simp only;omega,λp hp=>h.net p (List.mem_of_mem_eraseIdx hp)⟩
variable {K:List Conv→Door→Prop} {N:List Conv→Door→Pk→Prop}
theorem q6d {cs:List Conv} {w:World} (h:q17 cs=some w):q16 w.convs=true∧q10 cs=some w.convs∧w.door=.zero∧w.nets=[]:=by
 unfold q17 at h
 split at h
 ·rename_i ns hn
  split at h
  ·rename_i ht
   cases h
   exact⟨ht,hn,rfl,rfl⟩
  ·cases h
 ·cases h
theorem q9r {cs:List Conv} {es:List Ev} {w:World} (h:q0d cs es=some w):∃w0,q17 cs=some w0∧es.length≤60∧w=es.foldl wDo w0:=by
 unfold q0d at h
 split at h
 ·rename_i w0 h0
  split at h
  ·rename_i hl
   cases h
   exact⟨w0,h0,hl,rfl⟩
  ·cases h
 ·cases h
def dgt (k:Nat) (out:B):B:=if h:k=0 then out else dgt (k / 10) (UInt8.ofNat (48+k % 10)::out)
def mtx (k:Int):B:=if k≤0 then [109,48] else 109::dgt k.toNat []
def mkS {α:Type} (f:Int→α) (s k:Int) (n:Nat):List α:=(List.range n).map λi:Nat=>f (k+s*(i:Int))
section
variable {α:Type} {f:Int→α} {s k:Int}
theorem q02 (n:Nat):(mkS f s k n).length=n:=by simp[mkS]
theorem qg2:mkS f s k 0=[]:=rfl
theorem q4p (n:Nat):mkS f s k (n+1)=mkS f s k n++[f (k+s*n)]:=by simp[mkS,List.range_succ]
theorem q84 {n i:Nat} (h:i<n) [Inhabited α]:(mkS f s k n).getD i default=f (k+s*i):=by
 have:(List.range n)[i]?=some i:=by rw[List.getElem?_range h]
 simp[mkS,List.getD,List.getElem?_map,this]
end
def mkC (k:Int):Conv:=⟨⟨k,k+1⟩,⟨k+2,k+3⟩,mtx (k+4),mtx (k+5),k+6,k+7,mtx (k+8),mtx (k+9)⟩
def q2o (k:Int):Pair:=⟨k,⟨k+1,k+2⟩⟩
def q82 (k:Int):Part:=⟨k,mtx (k+1)⟩
def q3q (k:Int):Pk:=⟨k,⟨k+1,k+2⟩,⟨k+3,k+4⟩,k+5,mtx (k+6)⟩
def qkh (k:Int):Ev:=⟨k,k+1,k+2,k+3,q3q (k+4)⟩
def flE (k:Int) (f:Flw):Int:=k+6+2*f.up.parts.length+2*f.down.parts.length
def q00 (k:Int) (f:Flw):Flw:=⟨⟨k,k+1⟩,⟨k+2,k+3⟩,⟨mtx (k+4),mkS q82 2 (k+5) f.up.parts.length⟩,⟨mtx (k+5+2*f.up.parts.length),mkS q82 2 (k+6+2*f.up.parts.length) f.down.parts.length⟩⟩
def qbm (l:Int) (n:Nat):Int:=if l - n<0 then -1 else l - n
def sz1 (l:Int) (n:Nat):Int:=if l<0 then -1 else qbm l n
def szC (l:Int) (c:Conv):Int:=sz1 (sz1 (sz1 (qbm l c.up.length) c.down.length) c.upGot.length) c.downGot.length
def szE (l:Int) (e:Ev):Int:=qbm l e.pkt.text.length
def szL {α:Type} (f:Int→α→Int):Int→List α→Int
 | l,[]=>l
 | l,c::cs=>if f l c<0 then -1 else szL f (f l c) cs
def szS {α:Type} (f:Int→α→Int) (l:Int) (cs:List α):Int:=if l - cs.length<0 then -1 else szL f (l - cs.length) cs
theorem qa9 {l:Int} {n:Nat} (h:0≤qbm l n):qbm l n=l - n∧(n:Int)≤l:=by
 unfold qbm at *;split at h
 ·omega
 ·rename_i h1;rw[if_neg h1];omega
theorem qdj {l:Int} {n:Nat} (h:0≤sz1 l n):0≤l∧sz1 l n=l - n∧(n:Int)≤l:=by
 unfold sz1 at *;split at h
 ·omega
 ·rename_i h1;rw[if_neg h1];have:=qa9 h;omega
theorem qkb {l:Int} {c:Conv} (h:0≤szC l c):szC l c≤l∧(c.up.length:Int)≤l∧(c.down.length:Int)≤l∧(c.upGot.length:Int)≤l∧(c.downGot.length:Int)≤l:=by
 unfold szC at *
 obtain⟨h1,h2,h3⟩:=qdj h
 obtain⟨h4,h5,h6⟩:=qdj h1
 obtain⟨h7,h8,h9⟩:=qdj h4
 have:=qa9 h7
 omega
theorem qk0 {l:Int} {e:Ev} (h:0≤szE l e):szE l e≤l∧(e.pkt.text.length:Int)≤l:=by
 have:=qa9 h
 unfold szE at *
 omega
theorem qkl {α:Type} {f:Int→α→Int} {Q:Int→α→Prop} (hf:∀l c,0≤f l c→f l c≤l∧Q l c) (hq:∀l l' c,l≤l'→Q l c→Q l' c):∀(cs:List α) (l:Int),0≤szL f l cs→szL f l cs≤l∧∀c∈cs,Q l c
 | [],l,_=>⟨Int.le_refl _,λc h=>by cases h⟩
 | c::cs,l,h=>by
   unfold szL at *
   split at h
   ·omega
   ·rename_i h1
    rw[if_neg h1]
    obtain⟨a,b⟩:=hf l c (by omega)
    obtain⟨d,e⟩:=qkl hf hq cs _ h
    refine⟨by omega,λx hx=>?_⟩
    rcases List.mem_cons.1 hx with rfl|hx
    ·exact b
    ·exact hq _ _ _ a (e x hx)
theorem qke {α:Type} {f:Int→α→Int} {Q:Int→α→Prop} (hf:∀l c,0≤f l c→f l c≤l∧Q l c) (hq:∀l l' c,l≤l'→Q l c→Q l' c) (cs:List α) (l:Int) (h:0≤szS f l cs):szS f l cs≤l∧(cs.length:Int)≤l∧∀c∈cs,Q l c:=by
 unfold szS at *
 split at h
 ·omega
 ·rename_i h1
  rw[if_neg h1]
  obtain⟨a,b⟩:=qkl hf hq cs _ h
  exact⟨by omega,by omega,λc hc=>hq _ _ _ (by omega) (b c hc)⟩
theorem ql8 {cs:List Conv} {l:Int} (h:0≤szS szC l cs):szS szC l cs≤l∧(cs.length:Int)≤l∧∀c∈cs,(c.up.length:Int)≤l∧(c.down.length:Int)≤l∧(c.upGot.length:Int)≤l∧(c.downGot.length:Int)≤l :=
 qke (Q:=λl c=>(c.up.length:Int)≤l∧(c.down.length:Int)≤l∧(c.upGot.length:Int)≤l∧(c.downGot.length:Int)≤l) (λ_ _ h=>qkb h) (λ_ _ _ h h2=>by omega) cs l h
theorem qlv {cs:List Ev} {l:Int} (h:0≤szS szE l cs):szS szE l cs≤l∧(cs.length:Int)≤l∧∀c∈cs,(c.pkt.text.length:Int)≤l :=
 qke (Q:=λl c=>(c.pkt.text.length:Int)≤l) (λ_ _ h=>qk0 h) (λ_ _ _ h h2=>by omega) cs l h
end Go.Proofs.YtpnekhiejecipaaGreatDoor.M
namespace Go.Proofs.YtpnekhiejecipaaGreatDoor.W
open Go Go.RowKit Go.Proofs Go.Proofs.YtpnekhiejecipaaGreatDoor.VL Go.Proofs.YtpnekhiejecipaaGreatDoor.M
def qq9 (v:Value):Prop:=v=.nilIface∨∃t p,v=.iface t p
def G:Glob where
 g W:=(∃m,W.cell? ⟨0,0,none⟩=some (.int .i64 m))∧(∃v,W.cell? ⟨2,0,none⟩=some v∧qq9 v)∧∃v,W.cell? ⟨3,0,none⟩=some v∧qq9 v
 ng:=4
 stays:=λW W' h hs ho ht hu hb=>by
  have e:∀b,b<4→W'.cell? ⟨b,0,none⟩=W.cell? ⟨b,0,none⟩:=λb hb4=>q3h (hb b hb4)
  rw[e 0 (by omega),e 2 (by omega),e 3 (by omega)]
  exact h
 there:=λW h=>by
  obtain⟨_,_,v,h,_⟩:=h
  have:∃o,W.heap[3]?=some o:=by
   cases hh:W.heap[3]? with
   | none=>simp[World.cell?,hh] at h
   | some o=>exact⟨o,rfl⟩
  obtain⟨o,ho⟩:=this
  have:=q1o ho
  omega
def q4o:V→Option Value
 | .int k n=>some (.int k n)
 | .bool b=>some (.bool b)
 | .str s=>some (.string (mkStr s))
 | .nile=>some .nilIface
 | _=>none
theorem qap {w:World} {O:Nat→Prop} {ρ:Nat→VL.Loc} {h:Nat→Hs} {v:V} {u x:Value} (hp:q4o v=some x) (hd:Den w O ρ h v u):u=x:=by
 cases v<;>simp only[q4o,zS,reduceCtorEq] at hp
 all_goals subst hp
 ·exact q3k hd
 ·exact q4m hd
 ·exact q4i hd
 ·exact qbb hd
theorem q6f {w:World} {O:Nat→Prop} {ρ:Nat→VL.Loc} {h:Nat→Hs} {v:V} {x:Value} (hp:q4o v=some x):Den2 w O ρ h v x:=by
 cases v<;>simp only[q4o,zS,reduceCtorEq] at hp
 all_goals subst hp
 ·exact Imm.int _ _
 ·exact Imm.bool _
 ·exact Imm.str _
 ·exact Imm.nile
def qdx:V→Option Value
 | .tup vs=>(vs.mapM q4o).map λus=>.tuple us.toArray
 | v=>q4o v
theorem q7b {w:World} {O:Nat→Prop} {ρ:Nat→VL.Loc} {h:Nat→Hs} {v:V} {x:Value} (hp:qdx v=some x):Den w O ρ h v x:=by
 by_cases ht:∃vs,v=.tup vs
 ·obtain⟨vs,rfl⟩:=ht
  simp only[qdx,zM] at hp
  obtain⟨us,hm,rfl⟩:=hp
  obtain⟨h1,h2⟩:=q22 hm
  refine⟨us,rfl,h1,λj v u hv hu=>q6f (h2 j v u hv hu)⟩
 ·have hp:q4o v=some x:=by cases v<;>first|exact hp|exact absurd ⟨_,rfl⟩ ht
  have:=q6f (w:=w) (O:=O) (ρ:=ρ) (h:=h) hp
  cases v<;>first|exact this|exact absurd ⟨_,rfl⟩ ht
section
variable {P:Program}
theorem FnP.lib {f:FuncId} {vs:List V} {us:List Value} {post:V→Prop} (hn:entr P f=true) (h1:vs.mapM q4o=some us) (hne:∃r,post r)
 (h:∀W,G.g W→Calls P f us.toArray W λe W'=>Below W.heap.size W W'∧∃u v,e=.returned u∧post v∧∀O,(∀b,O b→b<W.heap.size)→Den W' O (λ_=>default) (λ_=>.fresh) v u) :
 FnP P G f 0 [] vs (λr o=>o=[]∧post r) where
 en:=hn
 ne:=let ⟨r,h⟩:=hne;⟨r,[],rfl,h⟩
 run:=λW ρ ext us' hg hlt hno hng r hargs=>by
  obtain⟨h2,h3⟩:=q22 h1
  have e:us'=us:=by
   obtain⟨h4,h5⟩:=hargs
   apply List.ext_getElem?
   intro j
   cases hj:us'[j]? with
   | none =>
     have:=List.getElem?_eq_none_iff.1 hj
     exact(List.getElem?_eq_none_iff.2 (by omega)).symm
   | some u =>
     have hjl:j<us'.length:=(List.getElem?_eq_some_iff.1 hj).1
     have hv:=zE (l:=vs) (show j<vs.length by omega)
     have hu:=zE (l:=us) (show j<us.length by omega)
     rw[hu,qap (h3 j (vs[j]'(by omega)) (us[j]'(by omega)) hv hu) (h5 j _ u hv hj)]
  subst e
  refine(h W hg).mono λe W' ⟨hb,u,v,he,hp,hd⟩=>?_
  have hc:chH []=λ_=>.fresh:=by funext x;simp[chH]
  have hnb:∀b,¬blocks ρ (chH []) b:=λb ⟨c,hl,_⟩=>by rw[hc] at hl;cases hl
  refine⟨u,v,[],λ_=>default,he,⟨rfl,hp⟩,⟨hb.os,hb.tape,hb.output,hb.size,λb hb1 _=>hb.block b hb1,λc=>(by rw[hc];trivial),λc hl=>(by rw[hc] at hl;cases hl),λc c' hl=>(by rw[hc] at hl;cases hl),λi hi=>absurd hi (Nat.not_lt_zero _)⟩, ?_⟩
  rw[hc]
  refine hd _ λb hb=>?_
  rcases hb with hb|⟨c,hl,_⟩
  ·exact hlt b hb
  ·cases hl
theorem FnR.lib {f:FuncId} {vs:List V} {us:List Value} {v:V} {u:Value} (hn:entr P f=true) (h1:vs.mapM q4o=some us) (h2:qdx v=some u)
 (h:∀W,G.g W→Calls P f us.toArray W λe W'=>e=.returned u∧Below W.heap.size W W'):FnR P G f vs v:=by
 have:=FnP.lib (P:=P) (f:=f) (vs:=vs) (post:=λr=>r=v) hn h1 ⟨v,rfl⟩ λW hg=>(h W hg).mono λe W' ⟨he,hb⟩=>⟨hb,u,v,he,rfl,λO _=>q7b h2⟩
 exact⟨this.en,this.ne.imp λr ⟨o,h⟩=>⟨o,h.2,h.1⟩,λW ρ ext us a b c d e f=>(this.run W ρ ext us a b c d e f).mono λe W' ⟨u,r,o,ρ',he,⟨h1,h2⟩,h3⟩=>⟨u,r,o,ρ',he,⟨h2,h1⟩,h3⟩⟩
end
end Go.Proofs.YtpnekhiejecipaaGreatDoor.W
namespace Go.Proofs.YtpnekhiejecipaaGreatDoor.M
open Go Go.Proofs.YtpnekhiejecipaaGreatDoor.VL
def E.row (e:E):List V:=[.int .i64 e.a,.int .i64 e.p]
def Pc.row (p:Pc):List V:=[.int .i64 p.size,.bool p.named,.int .i64 p.e.a,.int .i64 p.e.p]
def Pair.row (p:Pair):List V:=[.int .i64 p.port,.int .i64 p.ins.a,.int .i64 p.ins.p]
def Part.row (p:Part):List V:=[.int .i64 p.size,.str p.text]
def Strm.row (s:Strm):List V:=[.str s.inn,.sl 2 (s.parts.map Part.row)]
def Flw.row (f:Flw):List V:=[.int .i64 f.ins.a,.int .i64 f.ins.p,.int .i64 f.out.a,.int .i64 f.out.p,.str f.up.inn,.sl 2 (f.up.parts.map Part.row),.str f.down.inn,.sl 2 (f.down.parts.map Part.row)]
def Pk.row (p:Pk):List V:=[.int .i64 p.kind,.int .i64 p.frm.a,.int .i64 p.frm.p,.int .i64 p.to.a,.int .i64 p.to.p,.int .i64 p.at_,.str p.text]
def Door.row (d:Door):List V:=[.sl 3 (d.map.map Pair.row),.sl 8 (d.flows.map Flw.row)]
def Conv.row (c:Conv):List V:=[.int .i64 c.ins.a,.int .i64 c.ins.p,.int .i64 c.out.a,.int .i64 c.out.p,.str c.up,.str c.down,.int .i64 c.upAck,.int .i64 c.downAck,.str c.upGot,.str c.downGot]
def World.row (w:World):List V:=[.sl 10 (w.convs.map Conv.row),.sl 3 (w.door.map.map Pair.row),.sl 8 (w.door.flows.map Flw.row),.sl 7 (w.nets.map Pk.row)]
def Ev.row (e:Ev):List V:=[.int .i64 e.kind,.int .i64 e.a,.int .i64 e.b,.int .i64 e.c,.int .i64 e.pkt.kind,.int .i64 e.pkt.frm.a,.int .i64 e.pkt.frm.p,.int .i64 e.pkt.to.a,.int .i64 e.pkt.to.p,.int .i64 e.pkt.at_,.str e.pkt.text]
def rdV (o:Option E):V:=.tup [.agg [.int .i64 (o.getD .zero).a,.int .i64 (o.getD .zero).p],.bool o.isSome]
theorem E.eta (e:E):E.mk e.a e.p=e:=by cases e;rfl
theorem Pc.eta (q:Pc):Pc.mk q.size q.named q.e=q:=by cases q;rfl
theorem Pair.eta (q:Pair):Pair.mk q.port q.ins=q:=by cases q;rfl
theorem Part.eta (q:Part):Part.mk q.size q.text=q:=by cases q;rfl
theorem Strm.eta (q:Strm):Strm.mk q.inn q.parts=q:=by cases q;rfl
theorem Pk.eta (q:Pk):Pk.mk q.kind q.frm q.to q.at_ q.text=q:=by cases q;rfl
theorem Flw.eta (q:Flw):Flw.mk q.ins q.out q.up q.down=q:=by cases q;rfl
theorem Conv.eta (q:Conv):Conv.mk q.ins q.out q.up q.down q.upAck q.downAck q.upGot q.downGot=q:=by cases q;rfl
theorem Door.eta (q:Door):Door.mk q.map q.flows=q:=by cases q;rfl
theorem World.eta (q:World):World.mk q.convs q.door q.nets=q:=by cases q;rfl
theorem Ev.eta (q:Ev):Ev.mk q.kind q.a q.b q.c q.pkt=q:=by cases q;rfl
end Go.Proofs.YtpnekhiejecipaaGreatDoor.M
namespace Go.Proofs
open Go.Shelf
def Tryz.lays169_ren:Go.Shelf.Ren:=⟨fun|169=>50|n=>n,fun|70=>87|9=>9|0=>0|72=>89|37=>46|127=>146|3=>3|5=>5|n=>n,fun|n=>n⟩
theorem Tryz.lays169:Go.Proofs.Lays.n169 Tryz.prog Tryz.lays169_ren:={
 mixed:=by kernel_rfl
 f169:=Tryz.func50.trans (congrArg some (by kernel_rfl))
 t0:=Tryz.underlying0
 a0:=Tryz.isAgg0
 z0:=Tryz.sizeOf0
 v0:=Tryz.zeroValue0
 t3:=Tryz.underlying3
 a3:=Tryz.isAgg3
 z3:=Tryz.sizeOf3
 v3:=Tryz.zeroValue3
 t9:=Tryz.underlying9
 a9:=Tryz.isAgg9
 z9:=Tryz.sizeOf9
 v9:=Tryz.zeroValue9
 t37:=Tryz.underlying46
 a37:=Tryz.isAgg46
 z37:=Tryz.sizeOf46
 v37:=Tryz.zeroValue46
 t70:=Tryz.underlying87
 a70:=Tryz.isAgg87
 z70:=Tryz.sizeOf87
 v70:=Tryz.zeroValue87
 t72:=Tryz.underlying89
 a72:=Tryz.isAgg89
 z72:=Tryz.sizeOf89
 v72:=Tryz.zeroValue89
 t127:=Tryz.underlying146
 a127:=Tryz.isAgg146
 z127:=Tryz.sizeOf146
 v127:=Tryz.zeroValue146 }
theorem Tryz.Builder_Extra_169:Builder.Extra Tryz.prog Tryz.lays169_ren:={
 sizeBuilder:=by kernel_rfl
 liesBuilder:=by kernel_rfl
 t5:=Tryz.underlying5
 a5:=Tryz.isAgg5
 z5:=Tryz.sizeOf5
 v5:=Tryz.zeroValue5
 infoByte:=by kernel_rfl
 cellsByte:=by kernel_rfl
 sizeByte:=by kernel_rfl
 neB5:=by decide }
open Go.RowKit in
theorem Tryz.Builder_String_any (B b:Nat) (l:List UInt8) (w:World) (h:Lib.IsBuilder 89 5 B b (Lib.byteCells l) w) (hBw:B≤w.heap.size) :
 Calls Tryz.prog 50 #[.pointer (some ⟨b,0,none⟩)] w λe w'=>e=.returned (.string ⟨l.toArray⟩)∧Below B w w':=Any.Builder_String_any Tryz.lays169 Tryz.Builder_Extra_169 B b l w h hBw
def Tryz.lays103_ren:Go.Shelf.Ren:=⟨fun|103=>262|210=>268|206=>188|n=>n,fun|9=>9|4=>4|24=>198|3=>3|n=>n,fun|n=>n⟩
theorem Tryz.lays103:Go.Proofs.Lays.n103 Tryz.prog Tryz.lays103_ren:={
 mixed:=by kernel_rfl
 f103:=Tryz.func262.trans (congrArg some (by kernel_rfl))
 f206:=Tryz.func188.trans (congrArg some (by kernel_rfl))
 f210:=Tryz.func268.trans (congrArg some (by kernel_rfl))
 t3:=Tryz.underlying3
 a3:=Tryz.isAgg3
 z3:=Tryz.sizeOf3
 v3:=Tryz.zeroValue3
 t4:=Tryz.underlying4
 a4:=Tryz.isAgg4
 z4:=Tryz.sizeOf4
 v4:=Tryz.zeroValue4
 t9:=Tryz.underlying9
 a9:=Tryz.isAgg9
 z9:=Tryz.sizeOf9
 v9:=Tryz.zeroValue9
 t24:=Tryz.underlying198
 a24:=Tryz.isAgg198
 z24:=Tryz.sizeOf198
 v24:=Tryz.zeroValue198 }
open Go.RowKit in
theorem Tryz.strings_CutPrefix (s p:ByteArray) (w:World) :
 Calls Tryz.prog 262 #[.string s,.string p] w λe w'=>e=.returned (.tuple #[.string ⟨(Lib.trimPrefix s.data.toList p.data.toList).toArray⟩,.bool (Lib.hasPrefix s.data.toList p.data.toList)])∧w'=w:=Any.strings_CutPrefix Tryz.lays103 s p w
def Tryz.lays171_ren:Go.Shelf.Ren:=⟨fun|171=>49|243=>105|246=>154|283=>190|284=>191|285=>192|286=>193|129=>224|317=>223|318=>225|319=>226|320=>227|337=>255|338=>256|n=>n,fun|3=>3|9=>9|2=>2|4=>4|171=>212|0=>0|53=>213|37=>46|5=>5|173=>216|212=>243|51=>231|20=>20|213=>244|46=>207|232=>291|233=>292|n=>n,fun|17=>1|18=>6|19=>7|n=>n⟩
theorem Tryz.lays171:Go.Proofs.Lays.n171 Tryz.prog Tryz.lays171_ren:={
 mixed:=by kernel_rfl
 f129:=Tryz.func224.trans (congrArg some (by kernel_rfl))
 f171:=Tryz.func49.trans (congrArg some (by kernel_rfl))
 f243:=Tryz.func105.trans (congrArg some (by kernel_rfl))
 f246:=Tryz.func154.trans (congrArg some (by kernel_rfl))
 f283:=Tryz.func190.trans (congrArg some (by kernel_rfl))
 f284:=Tryz.func191.trans (congrArg some (by kernel_rfl))
 f285:=Tryz.func192.trans (congrArg some (by kernel_rfl))
 f286:=Tryz.func193.trans (congrArg some (by kernel_rfl))
 f317:=Tryz.func223.trans (congrArg some (by kernel_rfl))
 f318:=Tryz.func225.trans (congrArg some (by kernel_rfl))
 f319:=Tryz.func226.trans (congrArg some (by kernel_rfl))
 f320:=Tryz.func227.trans (congrArg some (by kernel_rfl))
 f337:=Tryz.func255.trans (congrArg some (by kernel_rfl))
 f338:=Tryz.func256.trans (congrArg some (by kernel_rfl))
 t0:=Tryz.underlying0
 a0:=Tryz.isAgg0
 z0:=Tryz.sizeOf0
 v0:=Tryz.zeroValue0
 t2:=Tryz.underlying2
 a2:=Tryz.isAgg2
 z2:=Tryz.sizeOf2
 v2:=Tryz.zeroValue2
 t3:=Tryz.underlying3
 a3:=Tryz.isAgg3
 z3:=Tryz.sizeOf3
 v3:=Tryz.zeroValue3
 t4:=Tryz.underlying4
 a4:=Tryz.isAgg4
 z4:=Tryz.sizeOf4
 v4:=Tryz.zeroValue4
 t5:=Tryz.underlying5
 a5:=Tryz.isAgg5
 z5:=Tryz.sizeOf5
 v5:=Tryz.zeroValue5
 t9:=Tryz.underlying9
 a9:=Tryz.isAgg9
 z9:=Tryz.sizeOf9
 v9:=Tryz.zeroValue9
 t20:=Tryz.underlying20
 a20:=Tryz.isAgg20
 z20:=Tryz.sizeOf20
 v20:=Tryz.zeroValue20
 t37:=Tryz.underlying46
 a37:=Tryz.isAgg46
 z37:=Tryz.sizeOf46
 v37:=Tryz.zeroValue46
 t46:=Tryz.underlying207
 a46:=Tryz.isAgg207
 z46:=Tryz.sizeOf207
 v46:=Tryz.zeroValue207
 t51:=Tryz.underlying231
 a51:=Tryz.isAgg231
 z51:=Tryz.sizeOf231
 v51:=Tryz.zeroValue231
 t53:=Tryz.underlying213
 a53:=Tryz.isAgg213
 z53:=Tryz.sizeOf213
 v53:=Tryz.zeroValue213
 t171:=Tryz.underlying212
 a171:=Tryz.isAgg212
 z171:=Tryz.sizeOf212
 v171:=Tryz.zeroValue212
 t173:=Tryz.underlying216
 a173:=Tryz.isAgg216
 z173:=Tryz.sizeOf216
 v173:=Tryz.zeroValue216
 t212:=Tryz.underlying243
 a212:=Tryz.isAgg243
 z212:=Tryz.sizeOf243
 v212:=Tryz.zeroValue243
 t213:=Tryz.underlying244
 a213:=Tryz.isAgg244
 z213:=Tryz.sizeOf244
 t232:=Tryz.underlying291
 a232:=Tryz.isAgg291
 z232:=Tryz.sizeOf291
 v232:=Tryz.zeroValue291
 t233:=Tryz.underlying292
 a233:=Tryz.isAgg292
 z233:=Tryz.sizeOf292
 v233:=Tryz.zeroValue292
 g17:=by kernel_rfl
 g18:=by kernel_rfl
 g19:=by kernel_rfl }
open Go.RowKit Go.Sort Go.Lib in
theorem Tryz.strconv_Itoa_small (i:Nat) (hi:i<100) (w:World) :
 Calls Tryz.prog 49 #[.int .i64 i] w λe w'=>e=.returned (.string ⟨(Lib.decDigits i).toArray⟩)∧w'=w:=Any.strconv_Itoa_small Tryz.lays171 i hi w
def Tryz.laysM316_ren:Go.Shelf.Ren:=⟨fun|316=>187|n=>n,fun|9=>9|3=>3|4=>4|37=>46|0=>0|127=>146|5=>5|n=>n,fun|n=>n⟩
theorem Tryz.laysM316:Go.Proofs.LaysM.n316 Tryz.prog Tryz.laysM316_ren:={
 mixed:=by kernel_rfl
 f316:=Tryz.func187.trans (congrArg some (by kernel_rfl))
 t0:=Tryz.underlying0
 a0:=Tryz.isAgg0
 z0:=Tryz.sizeOf0
 v0:=Tryz.zeroValue0
 t3:=Tryz.underlying3
 a3:=Tryz.isAgg3
 z3:=Tryz.sizeOf3
 v3:=Tryz.zeroValue3
 t4:=Tryz.underlying4
 a4:=Tryz.isAgg4
 z4:=Tryz.sizeOf4
 v4:=Tryz.zeroValue4
 t9:=Tryz.underlying9
 a9:=Tryz.isAgg9
 z9:=Tryz.sizeOf9
 v9:=Tryz.zeroValue9
 t37:=Tryz.underlying46
 a37:=Tryz.isAgg46
 z37:=Tryz.sizeOf46
 v37:=Tryz.zeroValue46
 t127:=Tryz.underlying146
 a127:=Tryz.isAgg146
 z127:=Tryz.sizeOf146
 v127:=Tryz.zeroValue146
 t5:=Tryz.underlying5
 a5:=Tryz.isAgg5
 z5:=Tryz.sizeOf5
 v5:=Tryz.zeroValue5
 i0:=by kernel_rfl
 i3:=by kernel_rfl
 i4:=by kernel_rfl
 i5:=by kernel_rfl
 i9:=by kernel_rfl
 i37:=by kernel_rfl
 i127:=by kernel_rfl }
open Go.RowKit in
theorem Tryz.stringslite_Clone (s:ByteArray) (w:World) (hlim:s.size≤281474976710656) :
 Calls Tryz.prog 187 #[.string s] w λe w'=>e=.returned (.string s)∧Below w.heap.size w w':=Any.stringslite_Clone Tryz.laysM316 s w hlim
def Tryz.laysC172_ren:Go.Shelf.Ren:=⟨fun|172=>149|244=>185|245=>186|247=>217|279=>218|280=>219|281=>220|282=>221|287=>252|316=>187|171=>49|205=>253|321=>266|322=>267|243=>105|246=>154|283=>190|284=>191|285=>192|286=>193|129=>224|317=>223|318=>225|319=>226|320=>227|337=>255|338=>256|n=>n,fun|9=>9|3=>3|75=>93|76=>94|4=>4|5=>5|167=>236|37=>46|0=>0|85=>237|2=>2|168=>239|53=>213|175=>267|46=>207|210=>270|127=>146|145=>290|143=>288|21=>21|171=>212|173=>216|212=>243|51=>231|20=>20|213=>244|232=>291|233=>292|80=>97|n=>n,fun|15=>2|16=>3|17=>1|18=>6|19=>7|n=>n⟩
theorem Tryz.laysC172:Go.Proofs.LaysC.n172 Tryz.prog Tryz.laysC172_ren:={
 mixed:=by kernel_rfl
 f129:=Tryz.func224.trans (congrArg some (by kernel_rfl))
 f171:=Tryz.func49.trans (congrArg some (by kernel_rfl))
 f172:=Tryz.func149.trans (congrArg some (by kernel_rfl))
 f205:=Tryz.func253.trans (congrArg some (by kernel_rfl))
 f243:=Tryz.func105.trans (congrArg some (by kernel_rfl))
 f244:=Tryz.func185.trans (congrArg some (by kernel_rfl))
 f245:=Tryz.func186.trans (congrArg some (by kernel_rfl))
 f246:=Tryz.func154.trans (congrArg some (by kernel_rfl))
 f247:=Tryz.func217.trans (congrArg some (by kernel_rfl))
 f279:=Tryz.func218.trans (congrArg some (by kernel_rfl))
 f280:=Tryz.func219.trans (congrArg some (by kernel_rfl))
 f281:=Tryz.func220.trans (congrArg some (by kernel_rfl))
 f282:=Tryz.func221.trans (congrArg some (by kernel_rfl))
 f283:=Tryz.func190.trans (congrArg some (by kernel_rfl))
 f284:=Tryz.func191.trans (congrArg some (by kernel_rfl))
 f285:=Tryz.func192.trans (congrArg some (by kernel_rfl))
 f286:=Tryz.func193.trans (congrArg some (by kernel_rfl))
 f287:=Tryz.func252.trans (congrArg some (by kernel_rfl))
 f316:=Tryz.func187.trans (congrArg some (by kernel_rfl))
 f317:=Tryz.func223.trans (congrArg some (by kernel_rfl))
 f318:=Tryz.func225.trans (congrArg some (by kernel_rfl))
 f319:=Tryz.func226.trans (congrArg some (by kernel_rfl))
 f320:=Tryz.func227.trans (congrArg some (by kernel_rfl))
 f321:=Tryz.func266.trans (congrArg some (by kernel_rfl))
 f322:=Tryz.func267.trans (congrArg some (by kernel_rfl))
 f337:=Tryz.func255.trans (congrArg some (by kernel_rfl))
 f338:=Tryz.func256.trans (congrArg some (by kernel_rfl))
 t0:=Tryz.underlying0
 a0:=Tryz.isAgg0
 z0:=Tryz.sizeOf0
 v0:=Tryz.zeroValue0
 t2:=Tryz.underlying2
 a2:=Tryz.isAgg2
 z2:=Tryz.sizeOf2
 v2:=Tryz.zeroValue2
 t3:=Tryz.underlying3
 a3:=Tryz.isAgg3
 z3:=Tryz.sizeOf3
 v3:=Tryz.zeroValue3
 t4:=Tryz.underlying4
 a4:=Tryz.isAgg4
 z4:=Tryz.sizeOf4
 v4:=Tryz.zeroValue4
 t5:=Tryz.underlying5
 a5:=Tryz.isAgg5
 z5:=Tryz.sizeOf5
 v5:=Tryz.zeroValue5
 t9:=Tryz.underlying9
 a9:=Tryz.isAgg9
 z9:=Tryz.sizeOf9
 v9:=Tryz.zeroValue9
 t20:=Tryz.underlying20
 a20:=Tryz.isAgg20
 z20:=Tryz.sizeOf20
 v20:=Tryz.zeroValue20
 t21:=Tryz.underlying21
 a21:=Tryz.isAgg21
 z21:=Tryz.sizeOf21
 v21:=Tryz.zeroValue21
 t37:=Tryz.underlying46
 a37:=Tryz.isAgg46
 z37:=Tryz.sizeOf46
 v37:=Tryz.zeroValue46
 t46:=Tryz.underlying207
 a46:=Tryz.isAgg207
 z46:=Tryz.sizeOf207
 v46:=Tryz.zeroValue207
 t51:=Tryz.underlying231
 a51:=Tryz.isAgg231
 z51:=Tryz.sizeOf231
 v51:=Tryz.zeroValue231
 t53:=Tryz.underlying213
 a53:=Tryz.isAgg213
 z53:=Tryz.sizeOf213
 v53:=Tryz.zeroValue213
 t75:=Tryz.underlying93
 a75:=Tryz.isAgg93
 z75:=Tryz.sizeOf93
 v75:=Tryz.zeroValue93
 t76:=Tryz.underlying94
 a76:=Tryz.isAgg94
 z76:=Tryz.sizeOf94
 v76:=Tryz.zeroValue94
 t85:=Tryz.underlying237
 a85:=Tryz.isAgg237
 z85:=Tryz.sizeOf237
 v85:=Tryz.zeroValue237
 t127:=Tryz.underlying146
 a127:=Tryz.isAgg146
 z127:=Tryz.sizeOf146
 v127:=Tryz.zeroValue146
 t143:=Tryz.underlying288
 a143:=Tryz.isAgg288
 z143:=Tryz.sizeOf288
 v143:=Tryz.zeroValue288
 t145:=Tryz.underlying290
 a145:=Tryz.isAgg290
 z145:=Tryz.sizeOf290
 v145:=Tryz.zeroValue290
 t167:=Tryz.underlying236
 a167:=Tryz.isAgg236
 z167:=Tryz.sizeOf236
 v167:=Tryz.zeroValue236
 t168:=Tryz.underlying239
 a168:=Tryz.isAgg239
 z168:=Tryz.sizeOf239
 v168:=Tryz.zeroValue239
 t171:=Tryz.underlying212
 a171:=Tryz.isAgg212
 z171:=Tryz.sizeOf212
 v171:=Tryz.zeroValue212
 t173:=Tryz.underlying216
 a173:=Tryz.isAgg216
 z173:=Tryz.sizeOf216
 v173:=Tryz.zeroValue216
 t175:=Tryz.underlying267
 a175:=Tryz.isAgg267
 z175:=Tryz.sizeOf267
 v175:=Tryz.zeroValue267
 t210:=Tryz.underlying270
 a210:=Tryz.isAgg270
 z210:=Tryz.sizeOf270
 v210:=Tryz.zeroValue270
 t212:=Tryz.underlying243
 a212:=Tryz.isAgg243
 z212:=Tryz.sizeOf243
 v212:=Tryz.zeroValue243
 t213:=Tryz.underlying244
 a213:=Tryz.isAgg244
 z213:=Tryz.sizeOf244
 t232:=Tryz.underlying291
 a232:=Tryz.isAgg291
 z232:=Tryz.sizeOf291
 v232:=Tryz.zeroValue291
 t233:=Tryz.underlying292
 a233:=Tryz.isAgg292
 z233:=Tryz.sizeOf292
 v233:=Tryz.zeroValue292
 g15:=by kernel_rfl
 g16:=by kernel_rfl
 g17:=by kernel_rfl
 g18:=by kernel_rfl
 g19:=by kernel_rfl
 t80:=Tryz.underlying97
 a80:=Tryz.isAgg97
 z80:=Tryz.sizeOf97
 v80:=Tryz.zeroValue97
 i0:=by kernel_rfl
 i2:=by kernel_rfl
 i3:=by kernel_rfl
 i4:=by kernel_rfl
 i5:=by kernel_rfl
 i9:=by kernel_rfl
 i20:=by kernel_rfl
 i21:=by kernel_rfl
 i37:=by kernel_rfl
 i46:=by kernel_rfl
 i51:=by kernel_rfl
 i53:=by kernel_rfl
 i75:=by kernel_rfl
 i76:=by kernel_rfl
 i80:=by kernel_rfl
 i85:=by kernel_rfl
 i127:=by kernel_rfl
 i143:=by kernel_rfl
 i145:=by kernel_rfl
 i167:=by kernel_rfl
 i168:=by kernel_rfl
 i171:=by kernel_rfl
 i173:=by kernel_rfl
 i175:=by kernel_rfl
 i210:=by kernel_rfl
 i212:=by kernel_rfl
 i232:=by kernel_rfl
 i233:=by kernel_rfl
 m15:=by kernel_rfl
 m16:=by kernel_rfl
 m17:=by kernel_rfl
 m18:=by kernel_rfl
 m19:=by kernel_rfl
 c0:=by kernel_rfl
 c2:=by kernel_rfl
 c3:=by kernel_rfl
 c4:=by kernel_rfl
 c5:=by kernel_rfl
 c9:=by kernel_rfl
 c20:=by kernel_rfl
 c21:=by kernel_rfl
 c37:=by kernel_rfl
 c46:=by kernel_rfl
 c51:=by kernel_rfl
 c53:=by kernel_rfl
 c75:=by kernel_rfl
 c76:=by kernel_rfl
 c80:=by kernel_rfl
 c85:=by kernel_rfl
 c127:=by kernel_rfl
 c143:=by kernel_rfl
 c145:=by kernel_rfl
 c167:=by kernel_rfl
 c168:=by kernel_rfl
 c171:=by kernel_rfl
 c173:=by kernel_rfl
 c175:=by kernel_rfl
 c210:=by kernel_rfl
 c212:=by kernel_rfl
 c213:=by kernel_rfl
 c232:=by kernel_rfl
 c233:=by kernel_rfl }
def Tryz.lays145_ren:Go.Shelf.Ren:=⟨fun|145=>46|220=>95|219=>144|217=>178|225=>179|224=>180|267=>181|266=>212|314=>213|n=>n,fun|9=>9|4=>4|59=>90|3=>3|5=>5|46=>207|146=>232|51=>231|n=>n,fun|1=>0|n=>n⟩
theorem Tryz.lays145:Go.Proofs.Lays.n145 Tryz.prog Tryz.lays145_ren:={
 mixed:=by kernel_rfl
 f145:=Tryz.func46.trans (congrArg some (by kernel_rfl))
 f217:=Tryz.func178.trans (congrArg some (by kernel_rfl))
 f219:=Tryz.func144.trans (congrArg some (by kernel_rfl))
 f220:=Tryz.func95.trans (congrArg some (by kernel_rfl))
 f224:=Tryz.func180.trans (congrArg some (by kernel_rfl))
 f225:=Tryz.func179.trans (congrArg some (by kernel_rfl))
 f266:=Tryz.func212.trans (congrArg some (by kernel_rfl))
 f267:=Tryz.func181.trans (congrArg some (by kernel_rfl))
 f314:=Tryz.func213.trans (congrArg some (by kernel_rfl))
 t3:=Tryz.underlying3
 a3:=Tryz.isAgg3
 z3:=Tryz.sizeOf3
 v3:=Tryz.zeroValue3
 t4:=Tryz.underlying4
 a4:=Tryz.isAgg4
 z4:=Tryz.sizeOf4
 v4:=Tryz.zeroValue4
 t5:=Tryz.underlying5
 a5:=Tryz.isAgg5
 z5:=Tryz.sizeOf5
 v5:=Tryz.zeroValue5
 t9:=Tryz.underlying9
 a9:=Tryz.isAgg9
 z9:=Tryz.sizeOf9
 v9:=Tryz.zeroValue9
 t46:=Tryz.underlying207
 a46:=Tryz.isAgg207
 z46:=Tryz.sizeOf207
 v46:=Tryz.zeroValue207
 t51:=Tryz.underlying231
 a51:=Tryz.isAgg231
 z51:=Tryz.sizeOf231
 v51:=Tryz.zeroValue231
 t59:=Tryz.underlying90
 a59:=Tryz.isAgg90
 z59:=Tryz.sizeOf90
 v59:=Tryz.zeroValue90
 t146:=Tryz.underlying232
 a146:=Tryz.isAgg232
 z146:=Tryz.sizeOf232
 v146:=Tryz.zeroValue232
 g1:=by kernel_rfl }
open Go.RowKit Go.Lib in
theorem Tryz.strings_Cut (s sep:ByteArray) (m:Int) (w:World) (hs:s.size<4294967281) (hm:w.cell? ⟨0,0,none⟩=some (.int .i64 m)) :
 Calls Tryz.prog 46 #[.string s,.string sep] w λe w'=>e=.returned (.tuple #[.string ⟨(Lib.cut s.data.toList sep.data.toList).1.toArray⟩,.string ⟨(Lib.cut s.data.toList sep.data.toList).2.1.toArray⟩,.bool (Lib.cut s.data.toList sep.data.toList).2.2])∧∃n,w'=w.drewN n:=Any.strings_Cut Tryz.lays145 s sep m w hs hm
end Go.Proofs
namespace Go.Proofs.YtpnekhiejecipaaGreatDoor.W
open Go Go.RowKit Go.Proofs Go.Proofs.YtpnekhiejecipaaGreatDoor.VL
theorem qfk {P:Program} {t sz:Nat} (h:(P.info? t).map (λi=>(i.size,i.zero.map (·.cells.size),decide (i.bytes≤100000)))=some (sz,some sz,true)) :
 ∃i z,P.info? t=some i∧i.zero=some z∧i.size=sz∧z.cells.size=sz∧i.bytes≤100000:=by
 obtain⟨i,hi,h⟩:=Option.map_eq_some_iff.1 h
 simp only[Prod.mk.injEq,decide_eq_true_eq,zM] at h
 obtain⟨h1,⟨z,hz,h2⟩,h3⟩:=h
 exact⟨i,z,hi,hz,h1,h2,h3⟩
set_option maxRecDepth 100000
set_option maxHeartbeats 2000000
theorem m243:ClipM Tryz.prog 243:=by
 intro A n c W hc
 have u:Tryz.prog.underlying 190=some (.slice 193):=by kernel_rfl
 have u72:∀w,Sem.run Tryz.prog (underlying 190) w=.ok (TypeDesc.slice 193) w:=run_underlying u
 go_enter Tryz.func243,Tryz.ntmps243
 go_wp2
 go_ret
 exact⟨rfl,rfl⟩
theorem c243 (rows:List (List V)):FnR Tryz.prog G 243 [.sl 4 rows] (.sl 4 rows):=qgs (by kernel_rfl) m243 4 rows
theorem m168:ClipM Tryz.prog 168:=by
 intro A n c W hc
 have u:Tryz.prog.underlying 156=some (.slice 63):=by kernel_rfl
 have u72:∀w,Sem.run Tryz.prog (underlying 156) w=.ok (TypeDesc.slice 63) w:=run_underlying u
 go_enter Tryz.func168,Tryz.ntmps168
 go_wp2
 go_ret
 exact⟨rfl,rfl⟩
theorem c168 (rows:List (List V)):FnR Tryz.prog G 168 [.sl 2 rows] (.sl 2 rows):=qgs (by kernel_rfl) m168 2 rows
theorem m173:ClipM Tryz.prog 173:=by
 intro A n c W hc
 have u:Tryz.prog.underlying 27=some (.slice 145):=by kernel_rfl
 have u72:∀w,Sem.run Tryz.prog (underlying 27) w=.ok (TypeDesc.slice 145) w:=run_underlying u
 go_enter Tryz.func173,Tryz.ntmps173
 go_wp2
 go_ret
 exact⟨rfl,rfl⟩
theorem c173 (rows:List (List V)):FnR Tryz.prog G 173 [.sl 3 rows] (.sl 3 rows):=qgs (by kernel_rfl) m173 3 rows
theorem o173 (rows:List (List V)) (n:Nat) (h:rows.length=n):FnP Tryz.prog G 173 0 [.arr 145 3 rows] [.own 0 n] (λr o=>r=.own 0 n∧o=[.arr 145 3 rows]):=q86 (by kernel_rfl) m173 145 3 rows n h
theorem m209:ClipM Tryz.prog 209:=by
 intro A n c W hc
 have u:Tryz.prog.underlying 165=some (.slice 204):=by kernel_rfl
 have u72:∀w,Sem.run Tryz.prog (underlying 165) w=.ok (TypeDesc.slice 204) w:=run_underlying u
 go_enter Tryz.func209,Tryz.ntmps209
 go_wp2
 go_ret
 exact⟨rfl,rfl⟩
theorem o209 (rows:List (List V)) (n:Nat) (h:rows.length=n):FnP Tryz.prog G 209 0 [.arr 204 2 rows] [.own 0 n] (λr o=>r=.own 0 n∧o=[.arr 204 2 rows]):=q86 (by kernel_rfl) m209 204 2 rows n h
theorem m75:ClipM Tryz.prog 75:=by
 intro A n c W hc
 have u:Tryz.prog.underlying 26=some (.slice 69):=by kernel_rfl
 have u72:∀w,Sem.run Tryz.prog (underlying 26) w=.ok (TypeDesc.slice 69) w:=run_underlying u
 go_enter Tryz.func75,Tryz.ntmps75
 go_wp2
 go_ret
 exact⟨rfl,rfl⟩
theorem c75 (rows:List (List V)):FnR Tryz.prog G 75 [.sl 10 rows] (.sl 10 rows):=qgs (by kernel_rfl) m75 10 rows
theorem o75 (rows:List (List V)) (n:Nat) (h:rows.length=n):FnP Tryz.prog G 75 0 [.arr 69 10 rows] [.own 0 n] (λr o=>r=.own 0 n∧o=[.arr 69 10 rows]):=q86 (by kernel_rfl) m75 69 10 rows n h
theorem m78:ClipM Tryz.prog 78:=by
 intro A n c W hc
 have u:Tryz.prog.underlying 31=some (.slice 65):=by kernel_rfl
 have u72:∀w,Sem.run Tryz.prog (underlying 31) w=.ok (TypeDesc.slice 65) w:=run_underlying u
 go_enter Tryz.func78,Tryz.ntmps78
 go_wp2
 go_ret
 exact⟨rfl,rfl⟩
theorem o78 (rows:List (List V)) (n:Nat) (h:rows.length=n):FnP Tryz.prog G 78 0 [.arr 65 7 rows] [.own 0 n] (λr o=>r=.own 0 n∧o=[.arr 65 7 rows]):=q86 (by kernel_rfl) m78 65 7 rows n h
theorem m174:CloneM Tryz.prog 174 145 3:=by
 have t27:Tryz.prog.underlying 27=some (.slice 145):=by kernel_rfl
 have u27:∀w,Sem.run Tryz.prog (underlying 27) w=.ok (TypeDesc.slice 145) w:=run_underlying t27
 have q27:∀(w:World) (a:Option Addr) (n c n' c':Nat),(binOp .eql 27 (.slice a n c) (.slice none n' c')).run Tryz.prog w=.ok (.bool a.isNone) w:=λw a n c n' c'=>Lib.run_eql_slice_nil w _ _ a n c n' c' t27
 obtain⟨i0,z0,hi,hz,hs,hzs,hb⟩:=qfk (P:=Tryz.prog) (t:=145) (sz:=3) (by kernel_rfl)
 refine⟨λn c W=>?_,λa n c us W h1 h2 h3 h4=>?_⟩
 ·go_enter Tryz.func174,Tryz.ntmps174
  go_wp2
  go_ret
  exact⟨rfl,rfl⟩
 ·go_enter Tryz.func174,Tryz.ntmps174
  go_wp2_with (at_builtin;refine wpList_append_own _ rfl _ _ 27 rfl W.heap.size 145 i0 z0 3 i0.bytes t27 hi hz hs rfl hzs (by decide) _ _ _ rfl (World.ownsRow_made W #[] 0 (Nat.le_refl _) (Nat.zero_le _) rfl) a n c us rfl h1 ?qc2 h3 ?qc4 ?qc5 ?qc6 ?_)
  case qc2=>intro j u hj;exact Lib.cell?_alloc_some _ (h2 j u hj)
  case qc4=>unfold maxLen;omega
  case qc5=>exact Nat.le_trans (Nat.mul_le_mul (show 0+n≤2000000 by omega) hb) (by decide)
  case qc6=>simp
  intro v' w1 hown hgrow hnil
  go_wp2
  go_ret
  refine⟨v',rfl,by simpa using hown, ?_⟩
  exact((Below.refl _ W).alloc (Nat.le_refl _) _).grown hgrow (by simp) (by intro k hk;simp[Value.ownBlock] at hk;omega)
theorem c174 (rows:List (List V)) (hr:rows.length≤2000000):FnP Tryz.prog G 174 0 [] [.sl 3 rows] (λr o=>r=.own 0 rows.length∧o=[.arr 145 3 rows]):=q5v (by kernel_rfl) m174 rows hr
theorem m210:CloneM Tryz.prog 210 204 2:=by
 have t27:Tryz.prog.underlying 165=some (.slice 204):=by kernel_rfl
 have u27:∀w,Sem.run Tryz.prog (underlying 165) w=.ok (TypeDesc.slice 204) w:=run_underlying t27
 have q27:∀(w:World) (a:Option Addr) (n c n' c':Nat),(binOp .eql 165 (.slice a n c) (.slice none n' c')).run Tryz.prog w=.ok (.bool a.isNone) w:=λw a n c n' c'=>Lib.run_eql_slice_nil w _ _ a n c n' c' t27
 obtain⟨i0,z0,hi,hz,hs,hzs,hb⟩:=qfk (P:=Tryz.prog) (t:=204) (sz:=2) (by kernel_rfl)
 refine⟨λn c W=>?_,λa n c us W h1 h2 h3 h4=>?_⟩
 ·go_enter Tryz.func210,Tryz.ntmps210
  go_wp2
  go_ret
  exact⟨rfl,rfl⟩
 ·go_enter Tryz.func210,Tryz.ntmps210
  go_wp2_with (at_builtin;refine wpList_append_own _ rfl _ _ 165 rfl W.heap.size 204 i0 z0 2 i0.bytes t27 hi hz hs rfl hzs (by decide) _ _ _ rfl (World.ownsRow_made W #[] 0 (Nat.le_refl _) (Nat.zero_le _) rfl) a n c us rfl h1 ?qc2 h3 ?qc4 ?qc5 ?qc6 ?_)
  case qc2=>intro j u hj;exact Lib.cell?_alloc_some _ (h2 j u hj)
  case qc4=>unfold maxLen;omega
  case qc5=>exact Nat.le_trans (Nat.mul_le_mul (show 0+n≤2000000 by omega) hb) (by decide)
  case qc6=>simp
  intro v' w1 hown hgrow hnil
  go_wp2
  go_ret
  refine⟨v',rfl,by simpa using hown, ?_⟩
  exact((Below.refl _ W).alloc (Nat.le_refl _) _).grown hgrow (by simp) (by intro k hk;simp[Value.ownBlock] at hk;omega)
theorem c210 (rows:List (List V)) (hr:rows.length≤2000000):FnP Tryz.prog G 210 0 [] [.sl 2 rows] (λr o=>r=.own 0 rows.length∧o=[.arr 204 2 rows]):=q5v (by kernel_rfl) m210 rows hr
theorem m76:CloneM Tryz.prog 76 69 10:=by
 have t27:Tryz.prog.underlying 26=some (.slice 69):=by kernel_rfl
 have u27:∀w,Sem.run Tryz.prog (underlying 26) w=.ok (TypeDesc.slice 69) w:=run_underlying t27
 have q27:∀(w:World) (a:Option Addr) (n c n' c':Nat),(binOp .eql 26 (.slice a n c) (.slice none n' c')).run Tryz.prog w=.ok (.bool a.isNone) w:=λw a n c n' c'=>Lib.run_eql_slice_nil w _ _ a n c n' c' t27
 obtain⟨i0,z0,hi,hz,hs,hzs,hb⟩:=qfk (P:=Tryz.prog) (t:=69) (sz:=10) (by kernel_rfl)
 refine⟨λn c W=>?_,λa n c us W h1 h2 h3 h4=>?_⟩
 ·go_enter Tryz.func76,Tryz.ntmps76
  go_wp2
  go_ret
  exact⟨rfl,rfl⟩
 ·go_enter Tryz.func76,Tryz.ntmps76
  go_wp2_with (at_builtin;refine wpList_append_own _ rfl _ _ 26 rfl W.heap.size 69 i0 z0 10 i0.bytes t27 hi hz hs rfl hzs (by decide) _ _ _ rfl (World.ownsRow_made W #[] 0 (Nat.le_refl _) (Nat.zero_le _) rfl) a n c us rfl h1 ?qc2 h3 ?qc4 ?qc5 ?qc6 ?_)
  case qc2=>intro j u hj;exact Lib.cell?_alloc_some _ (h2 j u hj)
  case qc4=>unfold maxLen;omega
  case qc5=>exact Nat.le_trans (Nat.mul_le_mul (show 0+n≤2000000 by omega) hb) (by decide)
  case qc6=>simp
  intro v' w1 hown hgrow hnil
  go_wp2
  go_ret
  refine⟨v',rfl,by simpa using hown, ?_⟩
  exact((Below.refl _ W).alloc (Nat.le_refl _) _).grown hgrow (by simp) (by intro k hk;simp[Value.ownBlock] at hk;omega)
theorem c76 (rows:List (List V)) (hr:rows.length≤2000000):FnP Tryz.prog G 76 0 [] [.sl 10 rows] (λr o=>r=.own 0 rows.length∧o=[.arr 69 10 rows]):=q5v (by kernel_rfl) m76 rows hr
theorem m79:CloneM Tryz.prog 79 65 7:=by
 have t27:Tryz.prog.underlying 31=some (.slice 65):=by kernel_rfl
 have u27:∀w,Sem.run Tryz.prog (underlying 31) w=.ok (TypeDesc.slice 65) w:=run_underlying t27
 have q27:∀(w:World) (a:Option Addr) (n c n' c':Nat),(binOp .eql 31 (.slice a n c) (.slice none n' c')).run Tryz.prog w=.ok (.bool a.isNone) w:=λw a n c n' c'=>Lib.run_eql_slice_nil w _ _ a n c n' c' t27
 obtain⟨i0,z0,hi,hz,hs,hzs,hb⟩:=qfk (P:=Tryz.prog) (t:=65) (sz:=7) (by kernel_rfl)
 refine⟨λn c W=>?_,λa n c us W h1 h2 h3 h4=>?_⟩
 ·go_enter Tryz.func79,Tryz.ntmps79
  go_wp2
  go_ret
  exact⟨rfl,rfl⟩
 ·go_enter Tryz.func79,Tryz.ntmps79
  go_wp2_with (at_builtin;refine wpList_append_own _ rfl _ _ 31 rfl W.heap.size 65 i0 z0 7 i0.bytes t27 hi hz hs rfl hzs (by decide) _ _ _ rfl (World.ownsRow_made W #[] 0 (Nat.le_refl _) (Nat.zero_le _) rfl) a n c us rfl h1 ?qc2 h3 ?qc4 ?qc5 ?qc6 ?_)
  case qc2=>intro j u hj;exact Lib.cell?_alloc_some _ (h2 j u hj)
  case qc4=>unfold maxLen;omega
  case qc5=>exact Nat.le_trans (Nat.mul_le_mul (show 0+n≤2000000 by omega) hb) (by decide)
  case qc6=>simp
  intro v' w1 hown hgrow hnil
  go_wp2
  go_ret
  refine⟨v',rfl,by simpa using hown, ?_⟩
  exact((Below.refl _ W).alloc (Nat.le_refl _) _).grown hgrow (by simp) (by intro k hk;simp[Value.ownBlock] at hk;omega)
theorem c79 (rows:List (List V)) (hr:rows.length≤2000000):FnP Tryz.prog G 79 0 [] [.sl 7 rows] (λr o=>r=.own 0 rows.length∧o=[.arr 65 7 rows]):=q5v (by kernel_rfl) m79 rows hr
def qki:Go.Shelf.Ren:=⟨fun|166=>47|240=>96|276=>145|n=>n,fun|0=>0|3=>3|4=>4|9=>9|20=>20|37=>46|70=>87|72=>89|75=>93|164=>177|5=>5|80=>97|n=>n,fun|n=>n⟩
theorem qmv:Go.Proofs.Lays.n166 Tryz.prog qki:={
 mixed:=by kernel_rfl
 f166:=Tryz.func47.trans (congrArg some (by kernel_rfl))
 f240:=Tryz.func96.trans (congrArg some (by kernel_rfl))
 f276:=Tryz.func145.trans (congrArg some (by kernel_rfl))
 t0:=Tryz.underlying0
 a0:=Tryz.isAgg0
 z0:=Tryz.sizeOf0
 v0:=Tryz.zeroValue0
 t3:=Tryz.underlying3
 a3:=Tryz.isAgg3
 z3:=Tryz.sizeOf3
 v3:=Tryz.zeroValue3
 t4:=Tryz.underlying4
 a4:=Tryz.isAgg4
 z4:=Tryz.sizeOf4
 v4:=Tryz.zeroValue4
 t9:=Tryz.underlying9
 a9:=Tryz.isAgg9
 z9:=Tryz.sizeOf9
 v9:=Tryz.zeroValue9
 t20:=Tryz.underlying20
 a20:=Tryz.isAgg20
 z20:=Tryz.sizeOf20
 v20:=Tryz.zeroValue20
 t37:=Tryz.underlying46
 a37:=Tryz.isAgg46
 z37:=Tryz.sizeOf46
 v37:=Tryz.zeroValue46
 t70:=Tryz.underlying87
 a70:=Tryz.isAgg87
 z70:=Tryz.sizeOf87
 v70:=Tryz.zeroValue87
 t72:=Tryz.underlying89
 a72:=Tryz.isAgg89
 z72:=Tryz.sizeOf89
 v72:=Tryz.zeroValue89
 t75:=Tryz.underlying93
 a75:=Tryz.isAgg93
 z75:=Tryz.sizeOf93
 v75:=Tryz.zeroValue93
 t164:=Tryz.underlying177
 a164:=Tryz.isAgg177
 z164:=Tryz.sizeOf177
 v164:=Tryz.zeroValue177 }
theorem qi6:Builder.Extra Tryz.prog qki:={
 sizeBuilder:=by kernel_rfl
 liesBuilder:=by kernel_rfl
 t5:=Tryz.underlying5
 a5:=Tryz.isAgg5
 z5:=Tryz.sizeOf5
 v5:=Tryz.zeroValue5
 infoByte:=by kernel_rfl
 cellsByte:=by kernel_rfl
 sizeByte:=by kernel_rfl
 neB5:=by decide }
theorem m47 (B b:Nat) (bs:List Value) (s:ByteArray) (w:World) (h:Lib.IsBuilder 89 5 B b bs w) (hlen:bs.length+s.size≤140737488355328) (hBw:B≤w.heap.size) :
 Calls Tryz.prog 47 #[.pointer (some ⟨b,0,none⟩),.string s] w λe w'=>e=.returned (.tuple #[.int .i64 s.size,.nilIface])∧(Lib.BuilderAt 89 5 B b (.pointer (some ⟨b,0,none⟩)) (bs++Lib.strCells s) w'∧Below B w w') :=
 Any.Builder_WriteString qmv qi6 B b bs s w h hlen hBw
theorem q7z {T e:TypeId} {B b:Nat} {bs:List Value} {w w':World} (h:Lib.IsBuilder T e B b bs w) (hb:Below w.heap.size w w'):Lib.IsBuilder T e B b bs w':=by
 have hg:w.grownBy w' none:=⟨hb.os,hb.tape,hb.output,hb.size,λk hk _=>hb.block k hk⟩
 have key:∀p,Lib.BuilderAt T e B b p bs w→Lib.BuilderAt T e B b p bs w':=λp h=>by
  have hlt:=h.lt
  obtain⟨hB,v,h1,h2,h3⟩:=h
  refine⟨hB,v,(hb.block b hlt).trans h1,h2.kept hg ?_,h3⟩
  cases v.ownBlock with
  | none=>exact .inl rfl
  | some k=>exact .inr (by simp)
 exact h.imp (key _) (key _)
theorem hid {p:Prop} (h:p):Hid p:=h
set_option maxHeartbeats 2000000
set_option maxRecDepth 100000
theorem m246 (inn:ByteArray) (A:Option Addr) (n cap:Nat) (bk o:Nat) (hA:0<n→A=some ⟨bk,o,none⟩) (tx:List (List UInt8)) (w:World) (hn:tx.length=n) (hn2:n≤1000) (hbk:0<n→bk<w.heap.size) (hcap:n≤cap)
 (hc:∀(i:Nat) x,tx[i]?=some x→∃z:Int,w.cell? ⟨bk,o+(i*2+0),none⟩=some (.int .i64 z)∧w.cell? ⟨bk,o+(i*2+1),none⟩=some (.string ⟨x.toArray⟩)) (hlen:∀x,x∈tx→x.length≤1000) :
 Calls Tryz.prog 246 #[.agg #[.string inn,.slice A n cap]] w λe w'=>e=.returned (.string ⟨tx.flatten.toArray⟩)∧Below w.heap.size w w':=by
 have e61:∀args w,(callFunc 47 args).run Tryz.prog w=.ok (.enter 47 args) w:=enters_of Tryz.func47 (by kernel_rfl) rfl
 have e64:∀args w,(callFunc 50 args).run Tryz.prog w=.ok (.enter 50 args) w:=enters_of Tryz.func50 (by kernel_rfl) rfl
 have HA:=hid hA
 have Hc:=hid hc
 have Hl:=hid hlen
 have Hn:=hid hn
 clear hA hc hlen hn
 go_enter Tryz.func246,Tryz.ntmps246
 go_wp2_with fail
 go_loopw [9] (λi wr=>∃k:Nat,k≤n∧i=.int .i64 k∧Hid (Lib.IsBuilder 89 5 w.heap.size (w.heap.size+1) (Lib.byteCells (tx.take k).flatten) wr)∧Hid (Below w.heap.size w wr)) (λi _=>n - (intOf i).toNat)
 case atStart =>
  refine⟨0,Nat.zero_le _,rfl, ?_, ?_⟩
  ·refine .inl ⟨Nat.le_succ _,.slice none 0 0, ?_,World.ownsRow_nil _ _ _ _,by simp[Value.ownBlock]⟩
   have:=heap_alloc_new (w.alloc (Obj.cells #[Value.string inn,Value.slice A n cap] 167)) (Obj.cells #[Value.pointer none,Value.slice none 0 0] 89)
   simpa using this
  ·exact((Below.refl w.heap.size w).alloc (Nat.le_refl _) _).alloc (by simp) _
 case round =>
  obtain⟨k,hk,rfl,HB,HW⟩:=hrel
  have hBw:w.heap.size≤wr.heap.size:=HW.out.size
  by_cases hkn:k<n
  ·obtain⟨x,hx⟩:∃x,tx[k]?=some x:=⟨tx[k]'(by have:=Hn.out;omega),zE _⟩
   obtain rfl:=HA.out (by omega)
   obtain⟨z,hc0,hc1⟩:=Hc.out k x hx
   have hbk':bk<w.heap.size:=hbk (by omega)
   have hd0:wr.cell? ⟨bk,o+k*2,none⟩=some (.int .i64 z):=by
    rw[HW.out.cell (p:=⟨bk,o+k*2,none⟩) hbk']
    exact hc0
   have hd1:wr.cell? ⟨bk,o+k*2+1,none⟩=some (.string ⟨x.toArray⟩):=by
    rw[HW.out.cell (p:=⟨bk,o+k*2+1,none⟩) hbk']
    exact hc1
   have Hx:=hid hx
   clear hc0 hc1 hx
   have hxl:=Hl.out x (List.mem_of_getElem? Hx.out)
   have hfl:∀(l:List (List UInt8)) (m:Nat),(∀y,y∈l→y.length≤1000)→l.length≤m→l.flatten.length≤m*1000:=by
    intro l
    induction l with
    | nil=>intro m _ _;simp
    | cons a l ih =>
      intro m h1 h2
      obtain⟨m,rfl⟩:∃q,m=q+1:=⟨m - 1,by simp at h2;omega⟩
      have:=ih m (λy hy=>h1 y (List.mem_cons_of_mem _ hy)) (by simpa using h2)
      have:=h1 a List.mem_cons_self
      simp only[List.flatten_cons,zA]
      omega
   have hl1:=hfl (tx.take k) 1000 (λy hy=>Hl.out y (List.mem_of_mem_take hy)) (by simp;omega)
   have hnext:Lib.byteCells (tx.take k).flatten++Lib.strCells ⟨x.toArray⟩=Lib.byteCells (tx.take (k+1)).flatten:=by
    rw[List.take_add_one,Hx.out]
    simp[Lib.strCells_eq,Lib.byteCells_append]
   have Hn':=hid hnext
   have Hl1:=hid hl1
   have Hxl:=hid hxl
   clear hnext hl1 hxl hfl
   go_wp2_with fail
   have hbel:Below wr.heap.size wr (wr.alloc (Obj.cells #[Value.int IntKind.i64 z,Value.string { data:=x.toArray }] 204)):=(Below.refl _ _).alloc (Nat.le_refl _) _
   refine(m47 w.heap.size (w.heap.size+1) _ ⟨x.toArray⟩ _ (q7z HB.out hbel) ?hl (Nat.le_trans hBw hbel.size)).mono ?_
   case hl =>
    have h1:=Hl1.out
    have h2:=Hxl.out
    rw[Lib.byteCells_length]
    simp only[ByteArray.size,List.size_toArray]
    omega
   rintro e w3 ⟨rfl,h3,hb3⟩
   rw[Hn'.out] at h3
   have H3:=hid (Or.inr h3:Lib.IsBuilder 89 5 w.heap.size (w.heap.size+1) _ w3)
   have Hb3:=hid ((HW.out.trans (hbel.mono hBw)).trans hb3)
   clear h3 hb3 hbel
   go_wp2
   exact⟨⟨k+1,by omega,by go_num,H3,Hb3⟩,by simp[intOf];omega⟩
  ·obtain rfl:k=n:=by omega
   have hB':=HB.out
   rw[List.take_of_length_le (by rw[Hn.out];omega)] at hB'
   go_wp2_with fail
   refine(Tryz.Builder_String_any w.heap.size (w.heap.size+1) _ wr hB' hBw).mono ?_
   rintro e w5 ⟨rfl,hb5⟩
   have Hb5:=hid (HW.out.trans hb5)
   clear hb5 hB'
   go_wp2
   go_ret
   exact⟨rfl,Hb5.out⟩
theorem e246:entr Tryz.prog 246=true:=by kernel_rfl
theorem qpw (s:M.Strm) (h:M.StrB s):FnR Tryz.prog G 246 [.agg [.str s.inn,.sl 2 (s.parts.map M.Part.row)]] (.str (M.sOut s)) where
 en:=e246
 ne:=⟨_,_,rfl,rfl⟩
 run:=λW ρ ext us hg hlt hno hng r hargs=>by
  obtain⟨u,rfl,hd⟩:=qc7 hargs
  obtain⟨fs,rfl,hfl,hf⟩:=hd
  have hc:chH []=λ_=>.fresh:=by funext x;simp[chH]
  have fin:∀e (W':World),e=Ending.returned (.string (mkStr (M.sOut s)))→Below W.heap.size W W'→∃u res out ρ',e=.returned u∧(res=V.str (M.sOut s)∧out=[])∧RelH ⟨W,blocks ρ (chH []),ext,0,ρ⟩ ρ' (chH out) W' ∧
   Den W' (owns ⟨W,blocks ρ (chH []),ext,0,ρ⟩ ρ' (chH out)) ρ' (chH out) res u:=λe W' he hb=>by
   refine⟨_,_,[],λ_=>default,he,⟨rfl,rfl⟩,⟨hb.os,hb.tape,hb.output,hb.size,λb hb1 _=>hb.block b hb1,λc=>(by rw[hc];trivial),λc hl=>(by rw[hc] at hl;cases hl),λc c' hl=>(by rw[hc] at hl;cases hl),λi hi=>absurd hi (Nat.not_lt_zero _)⟩,Imm.str _⟩
  match fs,hfl with
  | [a,b],_ =>
    have ha:a=.string (mkStr s.inn):=q4i (hf 0 _ _ rfl rfl)
    subst ha
    have hb:Imm W _ (.sl 2 (s.parts.map M.Part.row)) b:=hf 1 _ _ rfl rfl
    have hout:(s.parts.map λp=>p.text).flatten=M.sOut s:=by simp[M.sOut,List.flatMap]
    have key:∀(A:Option Addr) (cap bk o:Nat),b=.slice A s.parts.length cap→s.parts.length≤cap→(0<s.parts.length→A=some ⟨bk,o,none⟩)→(0<s.parts.length→bk<W.heap.size) →
     (∀(i:Nat) x,(s.parts.map λp=>p.text)[i]?=some x→∃z:Int,W.cell? ⟨bk,o+(i*2+0),none⟩=some (.int .i64 z)∧W.cell? ⟨bk,o+(i*2+1),none⟩=some (.string ⟨x.toArray⟩)) →
     Calls Tryz.prog 246 #[.agg #[.string (mkStr s.inn),b]] W λe W'=>∃u res out ρ',e=.returned u∧(res=V.str (M.sOut s)∧out=[])∧RelH ⟨W,blocks ρ (chH []),ext,0,ρ⟩ ρ' (chH out) W' ∧
      Den W' (owns ⟨W,blocks ρ (chH []),ext,0,ρ⟩ ρ' (chH out)) ρ' (chH out) res u:=λA cap bk o hb hcap hA hbk hcells=>by
     subst hb
     refine(m246 (mkStr s.inn) A s.parts.length cap bk o hA (s.parts.map λp=>p.text) W (by simp) (by have:=h.2.1;omega) hbk hcap hcells (λx hx=>?_)).mono λe W' ⟨he,hb⟩=>fin e W' (by rw[he,hout];rfl) hb
     obtain⟨p,hp,rfl⟩:=List.mem_map.1 hx
     have:=h.2.2 p hp
     omega
    generalize hR:s.parts.map M.Part.row=R at hb
    have hRl:R.length=s.parts.length:=by rw[←hR];simp
    cases hb with
    | esl _ A cap =>
      have hz:s.parts.length=0:=by rw[←hRl];rfl
      refine key A cap 0 0 (by rw[hz]) (by omega) (λh=>by omega) (λh=>by omega) λi x hx=>?_
      have:=(List.getElem?_eq_some_iff.1 hx).1
      simp at this
      omega
    | sl _ _ blk off cap cs h1 h2 h3 h4 h5 h6 h7 =>
      refine key _ cap blk off (by rw[←hRl]) (by omega) (λ_=>rfl) (λ_=>h2) λi x hx=>?_
      obtain⟨p,hp,rfl⟩:∃p,s.parts[i]?=some p∧p.text=x:=by simpa using hx
      have hr:R[i]?=some (M.Part.row p):=by rw[←hR];simp[hp]
      have a0:=h6 i _ 0 _ hr rfl
      have a1:=h6 i _ 1 _ hr rfl
      have b0:=q3k (h7 i _ 0 _ hr rfl)
      have b1:=q4i (h7 i _ 1 _ hr rfl)
      rw[b0] at a0
      rw[b1] at a1
      exact⟨_,a0,a1⟩
theorem q8t {P:Program} (w:World) (t e ty:TypeId) (z:Value) (ht:P.underlying t=some (.slice e)) (hv:∀w,(zeroValue e).run P w=.ok z w) (h1:∀u,u∈z.cells.toList→u.oneCell'=true) (b o c:Nat)
 (hc:∀j,j<z.cells.toList.length→(w.cell? ⟨b,o+j,none⟩).isSome=true) (hf:∀j,j<z.cells.toList.length→w.frozen? ⟨b,o+j,none⟩=false) :
 (Builtin.clear_ #[t] ty #[.slice (some ⟨b,o,none⟩) 1 c]).run P w=.ok (.tuple #[]) (w.setCells b o z.cells.toList):=by
 have hzc:(Builtin.zeroCells z.cells 1).toList=z.cells.toList:=by
  simp only[Builtin.zeroCells]
  apply List.ext_getElem
  ·simp
  ·intro i h1 h2
   simp at h1 h2 ⊢
   have e:i % z.cells.size=i:=Nat.mod_eq_of_lt h2
   simp[e,h2]
 have hst:=run_storeCells_cells (P:=P) b o z.cells.toList 0 w (by simpa using hc) (by simpa using hf) h1
 simp only[Nat.add_zero] at hst
 simp[Builtin.clear_,run_underlying ht,hv,hzc,hst]
set_option maxRecDepth 100000
set_option maxHeartbeats 4000000
theorem m131 (blk off cap n k j:Nat) (us:List Value) (w:World) (hl:us.length=n*7) (hcl:∀(t:Nat) u,us[t]?=some u→w.cell? ⟨blk,off+t,none⟩=some u) (hone:∀u,u∈us→u.oneCell'=true)
 (hfz:∀t,t<n*7→w.frozen? ⟨blk,off+t,none⟩=false) (hcap:n≤cap) (hk:k<n) (hj:j=k+1) :
 Calls Tryz.prog 131 #[.slice (some ⟨blk,off,none⟩) n cap,.int .i64 k,.int .i64 (j:Int)] w λe w'=>e=.returned (.slice (some ⟨blk,off,none⟩) (n - 1) cap) ∧
  w'=((w.drew.setCells blk (off+k*7) (us.drop (j*7))).setCells blk (off+(n - 1)*7) [.int .i64 0,.int .i64 0,.int .i64 0,.int .i64 0,.int .i64 0,.int .i64 0,.string ⟨#[]⟩]):=by
 have t27:Tryz.prog.underlying 31=some (.slice 65):=by kernel_rfl
 obtain⟨i0,z0,hi,hz,hs,hzs,hb⟩:=qfk (P:=Tryz.prog) (t:=65) (sz:=7) (by kernel_rfl)
 have hlt:k<j:=by omega
 obtain⟨news,hnews⟩:∃news,news=us.drop (j*7):=⟨_,rfl⟩
 have hlen:news.length=(n - j)*7:=by rw[hnews];simp;omega
 obtain⟨A,hA,hsrc⟩:∃A:Addr,(if cap=j then some (⟨blk,off,none⟩:Addr) else some ⟨blk,off+j*7,none⟩)=some A∧Hid (∀(t:Nat) u,news[t]?=some u→w.drew.cell? (A.add t)=some u):=by
  by_cases h:cap=j
  ·refine⟨⟨blk,off,none⟩,by simp[h],λt u hu=>?_⟩
   have h0:news.length=0:=by rw[hlen];omega
   rw[List.length_eq_zero_iff.1 h0] at hu
   simp at hu
  ·refine⟨⟨blk,off+j*7,none⟩,by simp[h],λt u hu=>?_⟩
   rw[hnews,List.getElem?_drop] at hu
   rw[Addr.add_lit,Nat.add_assoc]
   exact hcl _ u hu
 have s1:Hid (news.length=(n - j)*7):=hlen
 have s2:Hid (∀u∈news,u.oneCell'=true):=λu hu=>hone u (by rw[hnews] at hu;exact List.mem_of_mem_drop hu)
 have s3:Hid (∀t,t<news.length→(w.drew.cell? ⟨blk,off+k*7+t,none⟩).isSome=true∧w.drew.frozen? ⟨blk,off+k*7+t,none⟩=false):=by
  intro t ht
  rw[hlen] at ht
  have hlt:k*7+t<us.length:=by rw[hl];omega
  rw[Nat.add_assoc]
  refine⟨?_,hfz _ (by omega)⟩
  show(w.cell? _).isSome=true
  rw[hcl (k*7+t) _ (zE hlt)]
  rfl
 obtain⟨W1,hW1⟩:∃W1,W1=w.drew.setCells blk (off+k*7) news:=⟨_,rfl⟩
 have hz':∀w,(zeroValue 65).run Tryz.prog w=.ok (.agg #[.int .i64 0,.int .i64 0,.int .i64 0,.int .i64 0,.int .i64 0,.int .i64 0,.string ⟨#[]⟩]) w:=λw=>by kernel_rfl
 have hcl2:∀ty,(Builtin.clear_ #[31] ty #[.slice (some ⟨blk,off+(k+(n - j))*7,none⟩) (n - (k+(n - j))) (cap - (k+(n - j)))]).run Tryz.prog W1=.ok (.tuple #[]) (W1.setCells blk (off+(k+(n - j))*7) [.int .i64 0,.int .i64 0,.int .i64 0,.int .i64 0,.int .i64 0,.int .i64 0,.string ⟨#[]⟩]):=λty=>by
  rw[show n - (k+(n - j))=1 by omega]
  refine q8t W1 _ _ ty _ t27 hz' (by simp[Value.cells,Value.oneCell']) blk _ _ (λj' hj'=>?_) (λj' hj'=>?_)
  ·have hlt:(n - 1)*7+j'<us.length:=by rw[hl];simp[Value.cells] at hj';omega
   have e:off+(k+(n - j))*7+j'=off+((n - 1)*7+j'):=by rw[show k+(n - j)=n - 1 by omega];omega
   rw[e,hW1,World.cell?_setCells_out _ _ _ _ _ (λ_ _=>.inr (by rw[hlen];simp only;omega))]
   show(w.cell? _).isSome=true
   rw[hcl _ _ (zE hlt)]
   rfl
  ·have e:off+(k+(n - j))*7+j'=off+((n - 1)*7+j'):=by rw[show k+(n - j)=n - 1 by omega];omega
   rw[e,hW1,World.frozen?_setCells]
   exact hfz _ (by simp[Value.cells] at hj';omega)
 have hW:Hid (W1=w.drew.setCells blk (off+k*7) news):=hW1
 have hkc:k≤cap:=by omega
 have hkc1:j≤cap:=by omega
 have hjn:j≤n:=by omega
 have hx:Hid (j=k+1∧news=us.drop (j*7)):=⟨hj,hnews⟩
 clear hW1 hnews hlen hcl hfz hone hj
 go_enter Tryz.func131,Tryz.ntmps131
 go_wp2_with fail
 go_region_law (refine step_append_room rfl (.tmp 22) (.tmp 25) 31 rfl 65 i0 7 t27 hi hs blk off k cap (by simp[Act.eval,Act.put]) A (n - j) (cap - j) news (by simp[Act.eval,Act.put,hA]) s1.out hsrc.out s2.out (by omega) s3.out ?_;rw[←hW.out])
 go_wp2
 go_ret
 have e2:k+(n - j)=n - 1:=by have:=hx.out.1;omega
 refine⟨by simp[e2],by rw[hW.out,hx.out.2,e2]⟩
theorem q5d {α β:Type} (f:α→β):∀(l:List α) (k:Nat),(l.map f).eraseIdx k=(l.eraseIdx k).map f
 | [],_=>rfl
 | _::_,0=>rfl
 | a::l,k+1=>by simp[q5d f l k]
def DelM (P:Program) (f:FuncId) (sz:Nat) (zr:List Value):Prop:=∀(blk off cap n k j:Nat) (us:List Value) (w:World),us.length=n*sz→(∀(t:Nat) u,us[t]?=some u→w.cell? ⟨blk,off+t,none⟩=some u)→(∀u,u∈us→u.oneCell'=true) →
 (∀t,t<n*sz→w.frozen? ⟨blk,off+t,none⟩=false)→n≤cap→k<n→j=k+1 →
 Calls P f #[.slice (some ⟨blk,off,none⟩) n cap,.int .i64 k,.int .i64 (j:Int)] w λe w'=>e=.returned (.slice (some ⟨blk,off,none⟩) (n - 1) cap)∧w'=((w.drew.setCells blk (off+k*sz) (us.drop (j*sz))).setCells blk (off+(n - 1)*sz) zr)
theorem qgq {w:World} {O:Nat→Prop} {ρ:Nat→VL.Loc} {h:Nat→Hs} {a b c:V} {us:List Value} (hargs:DenArgs w O ρ h [a,b,c] us):∃x y z,us=[x,y,z]∧Den w O ρ h a x∧Den w O ρ h b y∧Den w O ρ h c z:=by
 obtain⟨h1,h2⟩:=hargs
 match us,h1 with
 | [x,y,z],_=>exact⟨x,y,z,rfl,h2 0 _ _ rfl rfl,h2 1 _ _ rfl rfl,h2 2 _ _ rfl rfl⟩
set_option maxHeartbeats 400000
theorem qfs {P:Program} {G:Glob} {f:FuncId} (hn:entr P f=true) {sz:Nat} {zr:List Value} (h:DelM P f sz zr) (hzr:zr.length=sz) (ty:Nat) (rows:List (List V)) (n k:Nat) (hrn:rows.length=n) (hk:k<n) :
 FnP P G f 0 [.arr ty sz rows] [.own 0 n,.int .i64 (k:Int),.int .i64 ((k:Int)+1)] (λr o=>r=.own 0 (n - 1)∧o=[.arr ty sz (rows.eraseIdx k)]) where
 en:=hn
 ne:=⟨_,_,rfl,rfl⟩
 run:=λW ρ ext us0 hg hlt hno hng r hargs=>by
  obtain⟨u,u1,u2,rfl,hd,hd1,hd2⟩:=qgq hargs
  have e1:=q3k hd1
  have e2:=q3k hd2
  subst e1 e2
  have h0:∀R,chH [Hs.arr ty sz R] 0=.arr ty sz R:=λ_=>rfl
  have h1:∀R c,c≠0→chH [Hs.arr ty sz R] c=.fresh:=λR c hc=>by
   match c,hc with
   | c+1,_=>simp[chH]
  have hl:∀R c,(chH [Hs.arr ty sz R] c).live=true→c=0:=λR c hc=>by
   by_cases h':c=0
   ·exact h'
   ·rw[h1 R c h'] at hc;cases hc
  have hl0:∀R,(chH [Hs.arr ty sz R] 0).live=true:=λR=>rfl
  have hd:u=(ρ 0).sl n:=by
   simp only[Den,Den2,Den1,Den0,h0] at hd
   exact hd
  subst hd
  have hch:=r.chunk 0
  rw[h0] at hch
  rcases hch with⟨_,e,_⟩|⟨hnil,cs,hcs,hsz,hcap,hrl,hrows⟩
  ·rw[e] at hrn;simp at hrn;omega
  have hlt0:(ρ 0).blk<W.heap.size:=q1o hcs
  have hown:owns ⟨W,blocks ρ (chH [.arr ty sz rows]),ext,0,ρ⟩ ρ (chH [.arr ty sz rows]) (ρ 0).blk:=.inr ⟨0,hl0 _,hnil,rfl⟩
  obtain⟨us,hu1,hu2,hu3,hu4⟩:=q3n (w:=W) (rows:=rows) (sz:=sz) (blk:=(ρ 0).blk) (off:=(ρ 0).off) hrl (λi x j y hx hy=>by
   obtain⟨z,hz1,hz2⟩:=hrows i x j y hx hy
   exact⟨z,q53 _ _ _ _ _ _ _ hcs hz1,hz2⟩)
  have hsl:(ρ 0).sl n=.slice (some ⟨(ρ 0).blk,(ρ 0).off,none⟩) n (ρ 0).cap:=by simp[VL.Loc.sl,VL.Loc.addr,hnil]
  rw[hrn] at hu1
  have hcell:∀(t:Nat) u,us[t]?=some u→W.cell? ⟨(ρ 0).blk,(ρ 0).off+t,none⟩=some u:=λt u hu=>by
   have:=hu2 t u hu
   rwa [Addr.add_lit] at this
  have run:=h (ρ 0).blk (ρ 0).off (ρ 0).cap n k (k+1) us W hu1 hcell hu3 (λt ht=>by simp[World.frozen?,hcs]) (by omega) hk rfl
  rw[hsl]
  have ecast:((k+1:Nat):Int)=(k:Int)+1:=by omega
  rw[ecast] at run
  refine run.mono λe w' ⟨he,hw⟩=>?_
  have hn1:(n - 1)*sz+sz=n*sz:=by rw[←Nat.succ_mul];congr 1;omega
  have hk1:(k+1)*sz=k*sz+sz:=Nat.succ_mul k sz
  have hkn:(k+1)*sz≤n*sz:=Nat.mul_le_mul_right _ hk
  have hcapn:n*sz≤(ρ 0).cap*sz:=Nat.mul_le_mul_right _ (by omega)
  have hdl:(us.drop ((k+1)*sz)).length=n*sz - (k+1)*sz:=by simp[hu1]
  obtain⟨a1,a2,a3,a4,a5⟩:=q12 (ρ 0).blk (us.drop ((k+1)*sz)) ((ρ 0).off+k*sz) W.drew
  obtain⟨b1,b2,b3,b4,b5⟩:=q12 (ρ 0).blk zr ((ρ 0).off+(n - 1)*sz) (W.drew.setCells (ρ 0).blk ((ρ 0).off+k*sz) (us.drop ((k+1)*sz)))
  obtain⟨c1,m1,m2,m3⟩:=q11 (ρ 0).blk ty (0,0) (us.drop ((k+1)*sz)) ((ρ 0).off+k*sz) W.drew cs hcs (by rw[hdl];omega)
  obtain⟨c2,n1,n2,n3⟩:=q11 (ρ 0).blk ty (0,0) zr ((ρ 0).off+(n - 1)*sz) _ c1 m1 (by rw[hzr,m2];omega)
  rw[←hw] at b1 b2 b3 b4 b5 n1
  have bel:∀b,b≠(ρ 0).blk→w'.heap[b]?=W.heap[b]?:=λb hb=>(b5 b hb).trans (a5 b hb)
  have hsize:w'.heap.size=W.heap.size:=b4.trans a4
  refine⟨_,_,_,ρ,he,⟨rfl,rfl⟩,⟨(b1.trans a1).trans r.os,(b2.trans a2).trans r.tape,(b3.trans a3).trans r.output,by rw[hsize];exact r.grow,λb hb1 hb2=>(bel b λhx=>hb2 ⟨0,hl0 _,by rw[hx];exact⟨hnil,rfl⟩⟩).trans (r.keep b hb1 hb2),λc=>?_,λc hc hnl=>?_,λc c' hc hc' _ _ _=>(hl _ c hc).trans (hl _ c' hc').symm,λi hi=>absurd hi (Nat.not_lt_zero _)⟩, ?_⟩
  ·by_cases hc:c=0
   ·subst hc
    rw[h0]
    refine .inr ⟨hnil,c2,n1,by rw[n2,m2];exact hsz,by rw[List.length_eraseIdx];split<;>omega,λx hx=>hrl x (List.mem_of_mem_eraseIdx hx),λi x j y hx hy=>?_⟩
    have hjs:j<sz:=by
     have:=hrl x (List.mem_of_mem_eraseIdx (List.mem_of_getElem? hx))
     have h2:=(List.getElem?_eq_some_iff.1 hy).1
     omega
    have him:i<n - 1:=by
     have:=(List.getElem?_eq_some_iff.1 hx).1
     rw[List.length_eraseIdx] at this
     split at this<;>omega
    have him2:(i+1)*sz≤(n - 1)*sz:=Nat.mul_le_mul_right _ him
    have hi1:(i+1)*sz=i*sz+sz:=Nat.succ_mul i sz
    have tail:∀q z,us[q*sz+j]?=some z→Imm W (owns ⟨W,blocks ρ (chH [.arr ty sz rows]),ext,0,ρ⟩ ρ (chH [.arr ty sz rows])) y z→Imm w' (owns ⟨W,blocks ρ (chH [.arr ty sz rows]),ext,0,ρ⟩ ρ (chH [.arr ty sz (rows.eraseIdx k)])) y z:=λq z _ hz=>by
     refine hz.mono (Nat.le_of_eq hsize.symm) (λb hb1 hb2=>bel b λhx=>hb2 (hx▸hown)) λb hb1 ho=>?_
     rcases ho with ho|⟨c,hc,hnl,hb⟩
     ·exact .inl ho
     ·obtain rfl:=hl _ c hc
      exact .inr ⟨0,hl0 _,hnl,hb⟩
    rw[n3,if_neg (by omega),m3]
    rw[List.getElem?_eraseIdx] at hx
    by_cases hik:i<k
    ·rw[if_pos hik] at hx
     have hi2:(i+1)*sz≤k*sz:=Nat.mul_le_mul_right _ hik
     obtain⟨z,hz1,hz2⟩:=hu4 i x j y hx hy
     refine⟨z, ?_,tail i z hz1 hz2⟩
     rw[if_neg (by omega)]
     have:=hcell _ _ hz1
     simpa[World.cell?,hcs] using this
    ·rw[if_neg hik] at hx
     have hi2:k*sz≤i*sz:=Nat.mul_le_mul_right _ (by omega)
     obtain⟨z,hz1,hz2⟩:=hu4 (i+1) x j y hx hy
     refine⟨z, ?_,tail (i+1) z hz1 hz2⟩
     rw[if_pos (by rw[hdl];omega),List.getElem?_drop]
     rw[←hz1]
     congr 1
     omega
   ·rw[h1 _ c hc];trivial
  ·obtain rfl:=hl _ c hc
   exact r.home 0 (hl0 _) hnl
  ·simp only[Den,Den2,Den1,Den0,h0]
   exact(by simp[VL.Loc.sl,VL.Loc.addr,hnil])
theorem e131:entr Tryz.prog 131=true:=by kernel_rfl
theorem o131 (ps:List M.Pk) (k:Nat) (hk:k<ps.length):FnP Tryz.prog G 131 0 [.arr 65 7 (ps.map M.Pk.row)] [.own 0 ps.length,.int .i64 (k:Int),.int .i64 ((k:Int)+1)] (λr o=>r=.own 0 (ps.length - 1)∧o=[.arr 65 7 ((ps.eraseIdx k).map M.Pk.row)]):=by
 have:=qfs (G:=G) e131 m131 rfl 65 (ps.map M.Pk.row) ps.length k (by simp) hk
 rw[q5d] at this
 exact this
end Go.Proofs.YtpnekhiejecipaaGreatDoor.W
namespace Go.Proofs.YtpnekhiejecipaaGreatDoor.W
open Go Go.RowKit Go.Proofs Go.Proofs.YtpnekhiejecipaaGreatDoor.VL Go.Proofs.YtpnekhiejecipaaGreatDoor.M
attribute [congr] qco q9s qas qcp qd9 qg3 CallV_congr LoopI_congr qaj qcq qcd q9x qej qev qeh qdc qd0 qih q9w qe6 qd6
attribute [go_sem] qfq qgo qia qeq q3v qm5 ql4 qm0 qoj qwt qnz qky qjo qdn qi5 qj9 exN_n exN_r exN_e exB_n exB_r exB_h exB_m qqr kT_e qhe qws kD_e qj6 qsq qu7 gK_t gK_f do_mv qol qpe qr4 qsi qmk qrw qra qtg qrr qtt qv9 qx1 qq3 qpf quq qs6 qtk qo7 qml qqu qt2 qwk qgg quz ldK_s qnb qwv qt1 qms qrg qp5 qrb qlh qr0 quc qrp qu2 qst qw8 qsz do_mn do_mx qix quy qqo qsw qw5 qsh qpj qu5 qrv qty qq0 ev_t ev_c qif qjf
attribute [go_sem] List.nil_append List.cons_append List.append_nil qjh qf9 qgn qh0 qf2 nm_eq ne_eq Nat.reduceEqDiff not_false_eq_true Nat.reduceAdd Nat.add_zero zZ if_true if_false ite_true ite_false qni qtf qsf gdV_t gdV_f gdV_s quh ge_iff_le gt_iff_lt cond_true cond_false qkz qft qdq qcx qfd qfj qhu qd4 ld_pv ld_pa ld_ip qm9 qna qoh ql9 qlw qm6 ldA_s ld1_s qt6 qr2 qsn qn8 qkt qmx not_b neg_i cvi_i ext_t qt4 qp7
attribute [go_sem] qqb qlf rvs_t rvs_c qtc ql2 qwc quu qq8 qtd qv4  zS List.map_cons List.map_nil List.all_cons List.all_nil Bool.and_true Bool.and_self Bool.not_true Bool.not_false Option.map_some Option.map_none sls_s qp3 loV_n loV_i hiV_n hiV_i idx_s mn_i mx_i s2b_s b2s_s qur qdk qcy qwl qvf qnt qgk qvz qx2 qtn qv1 qjs qj3 qiw List.length_map qm8 qgl qr5 qtj mks_i qfc qks qgv qwg eq_self qdo qhh qvr qjg qv6 qlo qle qqn qi4 qen qlt qpk qgx qvh qkx qgi qhb qi1 List.getElem?_cons_zero List.getElem?_cons_succ zC zN decide_true decide_false Int.toNat_natCast Int.cast_ofNat_Int Int.reduceLT Int.reduceLE Int.reduceEq Int.reduceAdd Int.reduceSub Int.reduceMul Int.reduceNeg Int.reduceToNat List.getD_cons_zero List.getD_cons_succ not_true_eq_false not_false_eq_true Bool.false_eq_true Bool.true_eq_false reduceCtorEq
attribute [go_sem] E.row Pc.row Pair.row Part.row Strm.row Flw.row Pk.row Door.row Conv.row World.row Ev.row rdV E.eta Pc.eta Pair.eta Part.eta Strm.eta Pk.eta Flw.eta Conv.eta Door.eta World.eta Ev.eta
attribute [go_sem] qu3 st_pv st_pa qny qmz Nat.le_refl List.drop_zero List.drop_succ_cons List.take_succ_cons List.take_zero q6u Nat.reduceLeDiff
attribute [go_sem] qva qlb qn0 q8k qgj q6a qit qgd qjj qo9 qlc qgh qem qf3 q9v qdb qd3 qd8 qfu qnq qgr qlq qi3 qa2 qjw qge qhm qsv qir qn7 qj2 qus qq1 fzA_a fzW_a fzP_v qcw qah qao WkS_nil WkS_cons WkN_nil WkN_cons qio qe5 qgy qhd qep qmq qkw and_true true_and and_self
attribute [go_sem] qlm qku qnn qnu qjd qjl qho qhr qls qoi qmu qog qis qjq qhs qha qii qi0 qgt qj0 qim qjm qgz qhv qgu qhc qj4 qhz qod qn2 qli qn3 qvc qtv qpi qrq qok ql7 qm2 qnd qjc qjr qiy qhg qqg qvi qvo qvt qsb que qr3 qx0 qj5 qht qiz qhl qob qqv qqp
attribute [go_sem] qti qqk qlr rn_fn qwf rnfn1 qvy qmm qmr qnj qhw qm7 qh4 qi2 qin qgw qtz qgc ql3 qhx qwa qpm qme qm1 qh2 qiq qdu qe7 qd5 bk_ge bk_lt nsF_0 nsF_s chH_0 chH_s chH_n qw1 qrk qmd eqR_i eqR_b eqR_s qs0 qwo eqs_a beq_f beq_t qca qb7 qom qip Nat.reduceMul Nat.reduceLT Nat.zero_le Nat.not_lt_zero
attribute [go_sem] mV lD lA fD bN eX oP nP sR i0 s0 gT gF cT cF cI pF pT cD
def ic65:IC:=sR [oP 6 (.mv cF)] (sR [mV 7 0,mV 8 1,bN 9 .geq 7 8,mV 10 9,gT 11 10 (.mv (.t 0)),gT 12 10 (.mv (.t 2)),gT 13 10 (.bin .leq (.t 11) (.t 12)),pF 14 10 13,mV 6 14] .ret)
theorem dg65:Dg Tryz.prog 65 Tryz.f65 ic65 [(.t 6)]:=⟨Tryz.func65,by kernel_rfl,by kernel_rfl⟩
theorem c65 (a b c:Int):FnR Tryz.prog G 65 [.int .i64 a,.int .i64 b,.int .i64 c] (.bool (q0m a b c)):=by
 refine mF dg65 Tryz.ntmps65 ?_
 unfold q0m
 cases h:decide (b≤a)<;>simp only[ic65,go_sem,h,Bool.false_and,Bool.true_and]
def qua:IC:=sR [oP 6 (.mv cF)] (sR [mV 7 0,mV 8 1,bN 9 .geq 7 8,mV 10 9,gT 11 10 (.mv (.t 0)),gT 12 10 (.mv (.t 2)),gT 13 10 (.bin .leq (.t 11) (.t 12)),pF 14 10 13,mV 6 14] .ret)
theorem dg114:Dg Tryz.prog 114 Tryz.f114 qua [(.t 6)]:=⟨Tryz.func114,by kernel_rfl,by kernel_rfl⟩
theorem qda (a b c:Int):FnR Tryz.prog G 114 [.int .i64 a,.int .i64 b,.int .i64 c] (.bool (q0m a b c)):=by
 refine mF dg114 Tryz.ntmps114 ?_
 unfold q0m
 cases h:decide (b≤a)<;>simp only[qua,go_sem,h,Bool.false_and,Bool.true_and]
def qu4:IC:=sR [oP 1 (.box 63 (.t 0)),oP 2 (.mv cF)] (sR [fD 3 0 1,lD 4 1 3,oP 5 (.call 65 [.t 4,cI 1,cI 3]),mV 6 5,gT 7 6 (.fad 1 (.t 1)),gT 8 6 (.ld 1 false (.t 7)),gT 9 6 (.call 65 [.t 8,cI 1,cI 9]),pF 10 6 9,mV 2 10] .ret)
theorem dg120:Dg Tryz.prog 120 Tryz.f120 qu4 [(.t 2)]:=⟨Tryz.func120,by kernel_rfl,by kernel_rfl⟩
theorem qwj (a p:Int):FnR Tryz.prog G 120 [.agg [.int .i64 a,.int .i64 p]] (.bool (E.inside ⟨a,p⟩)):=by
 refine mF dg120 Tryz.ntmps120 ?_
 unfold E.inside
 simp only[qu4,go_sem]
 refine q0s (c65 _ _ _) rfl rfl ?_
 cases h:q0m a 1 3<;>simp only[go_sem,Bool.false_and,Bool.true_and]
 refine q0s (c65 _ _ _) rfl rfl ?_
 simp only[go_sem]
def qu6:IC:=sR [oP 1 (.box 63 (.t 0)),oP 2 (.mv cF)] (sR [fD 3 1 1,lD 4 1 3,oP 5 (.call 114 [.t 4,cI 1,cI 9]),mV 2 5] .ret)
theorem dg160:Dg Tryz.prog 160 Tryz.f160 qu6 [(.t 2)]:=⟨Tryz.func160,by kernel_rfl,by kernel_rfl⟩
theorem c160 (a p:Int):FnR Tryz.prog G 160 [.agg [.int .i64 a,.int .i64 p]] (.bool (q0m p 1 9)):=by
 refine mF dg160 Tryz.ntmps160 ?_
 simp only[qu6,go_sem]
 refine q0s (qda _ _ _) rfl rfl ?_
 simp only[go_sem]
def qwm:IC:=sR [oP 1 (.box 63 (.t 0)),oP 2 (.mv cF)] (sR [fD 3 0 1,lD 4 1 3,oP 5 (.call 114 [.t 4,cI 1,cI 3]),mV 6 5,gT 7 6 (.ld 2 true (.t 1)),gT 8 6 (.call 160 [.t 7]),pF 9 6 8,mV 2 9] .ret)
theorem dg109:Dg Tryz.prog 109 Tryz.f109 qwm [(.t 2)]:=⟨Tryz.func109,by kernel_rfl,by kernel_rfl⟩
theorem qvm (a p:Int):FnR Tryz.prog G 109 [.agg [.int .i64 a,.int .i64 p]] (.bool (E.inside ⟨a,p⟩)):=by
 refine mF dg109 Tryz.ntmps109 ?_
 unfold E.inside
 simp only[qwm,go_sem]
 refine q0s (qda _ _ _) rfl rfl ?_
 cases h:q0m a 1 3<;>simp only[go_sem,Bool.false_and,Bool.true_and]
 refine q0s (c160 _ _) rfl rfl ?_
 simp only[go_sem]
def qpc:IC:=sR [oP 1 (.box 63 (.t 0)),oP 2 (.mv cF)] (sR [fD 3 0 1,lD 4 1 3,oP 5 (.call 65 [.t 4,cI 4,cI 6]),mV 6 5,gT 7 6 (.fad 1 (.t 1)),gT 8 6 (.ld 1 false (.t 7)),gT 9 6 (.call 65 [.t 8,cI 1,cI 9]),pF 10 6 9,mV 2 10] .ret)
theorem dg121:Dg Tryz.prog 121 Tryz.f121 qpc [(.t 2)]:=⟨Tryz.func121,by kernel_rfl,by kernel_rfl⟩
theorem c121 (a p:Int):FnR Tryz.prog G 121 [.agg [.int .i64 a,.int .i64 p]] (.bool (E.outside ⟨a,p⟩)):=by
 refine mF dg121 Tryz.ntmps121 ?_
 simp only[qpc,go_sem]
 with_reducible repeat' (first|refine br ?_ ?_<;>intro h e<;>(try simp only[e,go_sem])<;>clear e|rw[q01 (by omega)]|refine sd ?_<;>try simp only[go_sem]|(first|refine cr (c65 ..) ?_)<;>try simp only[go_sem]|fail)
 all_goals simp_all[E.outside]
def qpb:IC:=sR [oP 1 (.box 63 (.t 0)),oP 2 (.mv cF)] (sR [fD 3 0 1,lD 4 1 3,oP 5 (.call 114 [.t 4,cI 4,cI 6]),mV 6 5,gT 7 6 (.ld 2 true (.t 1)),gT 8 6 (.call 160 [.t 7]),pF 9 6 8,mV 2 9] .ret)
theorem dg110:Dg Tryz.prog 110 Tryz.f110 qpb [(.t 2)]:=⟨Tryz.func110,by kernel_rfl,by kernel_rfl⟩
theorem c110 (a p:Int):FnR Tryz.prog G 110 [.agg [.int .i64 a,.int .i64 p]] (.bool (E.outside ⟨a,p⟩)):=by
 refine mF dg110 Tryz.ntmps110 ?_
 simp only[qpb,go_sem]
 with_reducible repeat' (first|refine br ?_ ?_<;>intro h e<;>(try simp only[e,go_sem])<;>clear e|rw[q01 (by omega)]|refine sd ?_<;>try simp only[go_sem]|(first|refine cr (qda ..) ?_|refine cr (c160 ..) ?_)<;>try simp only[go_sem]|fail)
 all_goals simp_all[E.outside]
def qrx:IC:=sR [oP 1 (.box 63 (.t 0)),oP 2 (.mv cF)] (sR [fD 3 0 1,lD 4 1 3,oP 5 (.bin .eql (.t 4) (cI 9)),mV 6 5,gT 7 6 (.fad 1 (.t 1)),gT 8 6 (.ld 1 false (.t 7)),gT 9 6 (.call 65 [.t 8,cI 10,cI 17]),pF 10 6 9,mV 2 10] .ret)
theorem dg125:Dg Tryz.prog 125 Tryz.f125 qrx [(.t 2)]:=⟨Tryz.func125,by kernel_rfl,by kernel_rfl⟩
theorem qg8 (a p:Int):FnR Tryz.prog G 125 [.agg [.int .i64 a,.int .i64 p]] (.bool (E.door ⟨a,p⟩)):=by
 refine mF dg125 Tryz.ntmps125 ?_
 simp only[qrx,go_sem]
 with_reducible repeat' (first|refine br ?_ ?_<;>intro h e<;>(try simp only[e,go_sem])<;>clear e|rw[q01 (by omega)]|refine sd ?_<;>try simp only[go_sem]|(first|refine cr (c65 ..) ?_)<;>try simp only[go_sem]|fail)
 all_goals simp_all[E.door]
def qsj:IC:=sR [oP 1 (.box 63 (.t 0)),oP 2 (.mv cF)] (sR [fD 3 0 1,lD 4 1 3,oP 5 (.bin .eql (.t 4) (cI 9)),mV 6 5,gT 7 6 (.fad 1 (.t 1)),gT 8 6 (.ld 1 false (.t 7)),gT 9 6 (.call 114 [.t 8,cI 10,cI 17]),pF 10 6 9,mV 2 10] .ret)
theorem dg119:Dg Tryz.prog 119 Tryz.f119 qsj [(.t 2)]:=⟨Tryz.func119,by kernel_rfl,by kernel_rfl⟩
theorem qga (a p:Int):FnR Tryz.prog G 119 [.agg [.int .i64 a,.int .i64 p]] (.bool (E.door ⟨a,p⟩)):=by
 refine mF dg119 Tryz.ntmps119 ?_
 simp only[qsj,go_sem]
 with_reducible repeat' (first|refine br ?_ ?_<;>intro h e<;>(try simp only[e,go_sem])<;>clear e|rw[q01 (by omega)]|refine sd ?_<;>try simp only[go_sem]|(first|refine cr (qda ..) ?_)<;>try simp only[go_sem]|fail)
 all_goals simp_all[E.door]
def qp8:IC:=sR [oP 1 (.box 63 (.t 0)),oP 2 (.mv cF)] (sR [lA 3 2 1,oP 4 (.call 120 [.t 3]),mV 5 4,gF 6 5 (.ld 2 true (.t 1)),gF 7 5 (.call 121 [.t 6]),pT 8 5 7,mV 9 8,gF 10 9 (.ld 2 true (.t 1)),gF 11 9 (.call 125 [.t 10]),pT 12 9 11,mV 2 12] .ret)
theorem dg133:Dg Tryz.prog 133 Tryz.f133 qp8 [(.t 2)]:=⟨Tryz.func133,by kernel_rfl,by kernel_rfl⟩
theorem c133 (a p:Int):FnR Tryz.prog G 133 [.agg [.int .i64 a,.int .i64 p]] (.bool (E.any ⟨a,p⟩)):=by
 refine mF dg133 Tryz.ntmps133 ?_
 simp only[qp8,go_sem]
 with_reducible repeat' (first|refine br ?_ ?_<;>intro h e<;>(try simp only[e,go_sem])<;>clear e|rw[q01 (by omega)]|refine sd ?_<;>try simp only[go_sem]|(first|refine cr (qwj ..) ?_|refine cr (c121 ..) ?_|refine cr (qg8 ..) ?_)<;>try simp only[go_sem]|fail)
 all_goals simp_all[E.any]
def qt3:IC:=sR [oP 1 (.box 63 (.t 0)),oP 2 (.mv cF)] (sR [lA 3 2 1,oP 4 (.call 109 [.t 3]),mV 5 4,gF 6 5 (.ld 2 true (.t 1)),gF 7 5 (.call 110 [.t 6]),pT 8 5 7,mV 9 8,gF 10 9 (.ld 2 true (.t 1)),gF 11 9 (.call 119 [.t 10]),pT 12 9 11,mV 2 12] .ret)
theorem dg142:Dg Tryz.prog 142 Tryz.f142 qt3 [(.t 2)]:=⟨Tryz.func142,by kernel_rfl,by kernel_rfl⟩
theorem c142 (a p:Int):FnR Tryz.prog G 142 [.agg [.int .i64 a,.int .i64 p]] (.bool (E.any ⟨a,p⟩)):=by
 refine mF dg142 Tryz.ntmps142 ?_
 simp only[qt3,go_sem]
 with_reducible repeat' (first|refine br ?_ ?_<;>intro h e<;>(try simp only[e,go_sem])<;>clear e|rw[q01 (by omega)]|refine sd ?_<;>try simp only[go_sem]|(first|refine cr (qvm ..) ?_|refine cr (c110 ..) ?_|refine cr (qga ..) ?_)<;>try simp only[go_sem]|fail)
 all_goals simp_all[E.any]
theorem u8le {a b:UInt8}:((a.toNat:Int)≤(b.toNat:Int))=(a≤b):=by simp[UInt8.le_iff_toNat_le]
def dig (b:UInt8):Int:=if q4j b 48 then(b.toNat:Int) - 48 else -1
def quv:IC:=sR [oP 2 (.mv (.c i0))] (.seq (sR [mV 3 0,oP 4 (.bin .lss (.t 3) (.c (.int .u8 48))),mV 5 4,gF 6 5 (.mv (.t 0)),gF 7 5 (.bin .gtr (.t 6) (.c (.int .u8 57))),pT 8 5 7] (cD 8 (sR [oP 2 (.mv (.c (.int .i64 (-1))))] .ret) .skip)) (sR [mV 9 0,oP 10 (.bin .sub (.t 9) (.c (.int .u8 48))),oP 11 (.cvi .i64 (.t 10)),mV 2 11] .ret))
theorem dg177:Dg Tryz.prog 177 Tryz.f177 quv [(.t 2)]:=⟨Tryz.func177,by kernel_rfl,by kernel_rfl⟩
theorem qn5 (b:UInt8):FnR Tryz.prog G 177 [.int .u8 (b.toNat:Int)] (.int .i64 (dig b)):=by
 refine mF dg177 Tryz.ntmps177 ?_
 have hb:b.toNat<256:=b.toNat_lt
 have e:q4j b 48=(decide (48≤(b.toNat:Int))&&decide ((b.toNat:Int)≤57)):=by
  simp only[q4j,UInt8.le_iff_toNat_le]
  have:(48:UInt8).toNat=48:=rfl
  have:(57:UInt8).toNat=57:=rfl
  congr 1<;>(apply decide_eq_decide.2;omega)
 simp only[quv,go_sem,dig,e]
 with_reducible repeat' (first|refine br ?_ ?_<;>intro h e<;>(try simp only[e,go_sem])<;>clear e|rw[q01 (by omega)]|refine sd ?_<;>try simp only[go_sem]|fail)
 all_goals first
  | (rw[if_neg (by simp;omega)])
  | (rw[if_pos (by simp;omega),u8w (by omega),q01 (by omega)])
def ic89:IC:=sR [oP 2 (.mv (.c s0))] (.seq (sR [mV 3 0,oP 4 (.bin .lss (.t 3) (.c (.int .i64 (-9223372036854775807))))] (cD 4 (sR [oP 2 (.mv (.c (.str [45,57,50,50,51,51,55,50,48,51,54,56,53,52,55,55,53,56,48,56])))] .ret) .skip)) (.seq (sR [mV 5 0,oP 6 (.bin .lss (.t 5) (.c i0))] (cD 6 (sR [mV 7 0,oP 8 (.un .neg (.t 7)),oP 9 (.call 89 [.t 8]),oP 10 (.bin .add (.c (.str [45])) (.t 9)),mV 2 10] .ret) .skip)) (.seq (sR [mV 11 0,oP 12 (.bin .lss (.t 11) (cI 10))] (cD 12 (sR [mV 13 0,oP 14 (.bin .add (cI 48) (.t 13)),oP 15 (.cvi .u8 (.t 14)),oP 16 (.bsl 5 1 [.t 15]),oP 17 (.b2s (.t 16)),mV 2 17] .ret) .skip)) (.seq (.drw [0,1,3,0,8,24,56,120,248,511,1023] [(0,mV 18 0),(1,oP 19 (.bin .quo (.t 18) (cI 10))),(2,oP 20 (.call 89 [.t 19])),(3,mV 21 0),(4,oP 22 (.bin .rem (.t 21) (cI 10))),(5,oP 23 (.bin .add (cI 48) (.t 22))),(6,oP 24 (.cvi .u8 (.t 23))),(7,oP 25 (.bsl 5 1 [.t 24])),(8,oP 26 (.b2s (.t 25))),(9,bN 27 .add 20 26),(10,mV 2 27)]) .ret))))
theorem dg89:Dg Tryz.prog 89 Tryz.f89 ic89 [(.t 2)]:=⟨Tryz.func89,by kernel_rfl,by kernel_rfl⟩
theorem c089 (n:Int) (h:0≤n∧n<10):FnR Tryz.prog G 89 [.int .i64 n] (.str (dec n)):=by
 refine mF dg89 Tryz.ntmps89 ?_
 simp only[ic89,go_sem]
 with_reducible repeat' (first|refine br ?_ ?_<;>intro h e<;>(try simp only[e,go_sem])<;>clear e|rw[q01 (by omega)]|refine sd ?_<;>try simp only[go_sem]|fail)
 all_goals first|omega|skip
 rw[u8w (by omega)]
 simp only[dec,qk8]
 rw[if_pos (by omega)]
 congr 2
 omega
theorem c89 (n:Int) (h:0≤n∧n<100):FnR Tryz.prog G 89 [.int .i64 n] (.str (dec n)):=by
 by_cases h10:n<10
 ·exact c089 n ⟨h.1,h10⟩
 refine mF dg89 Tryz.ntmps89 ?_
 have e1:n.tdiv 10=n / 10:=Int.tdiv_eq_ediv_of_nonneg h.1
 have e2:n.tmod 10=n % 10:=Int.tmod_eq_emod_of_nonneg h.1
 have hl:(dec (n / 10)).length≤2:=by unfold dec qk8;split<;>simp
 simp only[ic89,go_sem,e1,e2]
 with_reducible repeat' (first|refine br ?_ ?_<;>intro h e<;>(try simp only[e,go_sem])<;>clear e|rw[q01 (by omega)]|refine sd ?_<;>try simp only[go_sem]|fail)
 all_goals first|omega|skip
 refine q0s (c089 _ (by omega)) rfl rfl ?_
 simp only[go_sem,e1,e2]
 with_reducible repeat' (first|refine br ?_ ?_<;>intro h e<;>(try simp only[e,go_sem])<;>clear e|rw[q01 (by omega)]|refine sd ?_<;>try simp only[go_sem]|fail)
 simp only[dec,qk8]
 rw[if_neg (by omega),if_pos (by omega),u8w (by omega)]
 have e3:n.toNat / 10=(n / 10).toNat:=by omega
 have e4:48+n.toNat % 10=(48+n % 10).toNat:=by omega
 simp only[List.cons_append,List.nil_append,e3,e4]
theorem q8e (n:Int):(dec n).length≤2:=by unfold dec qk8;split<;>simp
def qtr:IC:=sR [oP 4 (.mv cF)] (sR [mV 5 0,mV 6 1,bN 7 .geq 5 6,mV 8 7,gT 9 8 (.mv (.t 0)),gT 10 8 (.bin .leq (.t 9) (.c (.int .u8 57))),pF 11 8 10,mV 4 11] .ret)
theorem dg147:Dg Tryz.prog 147 Tryz.f147 qtr [(.t 4)]:=⟨Tryz.func147,by kernel_rfl,by kernel_rfl⟩
theorem c147 (b lo:UInt8):FnR Tryz.prog G 147 [.int .u8 (b.toNat:Int),.int .u8 (lo.toNat:Int)] (.bool (q4j b lo)):=by
 refine mF dg147 Tryz.ntmps147 ?_
 have e:q4j b lo=(decide ((lo.toNat:Int)≤(b.toNat:Int))&&decide ((b.toNat:Int)≤57)):=by
  simp only[q4j,UInt8.le_iff_toNat_le]
  have:(57:UInt8).toNat=57:=rfl
  congr 1<;>(apply decide_eq_decide.2;omega)
 simp only[qtr,go_sem,e]
 with_reducible repeat' (first|refine br ?_ ?_<;>intro h e<;>(try simp only[e,go_sem])<;>clear e|rw[q01 (by omega)]|refine sd ?_<;>try simp only[go_sem]|fail)
 all_goals simp_all
theorem qcm (b:UInt8):(decide ((97:Int)≤(b.toNat:Int))=decide (97≤b))∧(decide ((b.toNat:Int)≤122)=decide (b≤122))∧(decide ((48:Int)≤(b.toNat:Int))=decide (48≤b))∧(decide ((b.toNat:Int)≤57)=decide (b≤57)) ∧
 (decide ((b.toNat:Int)=64)=decide (b=64))∧(decide ((b.toNat:Int)=58)=decide (b=58))∧(decide ((b.toNat:Int)=59)=decide (b=59))∧(decide ((b.toNat:Int)<97)=decide (b<97))∧(decide (122<(b.toNat:Int))=decide (122<b)):=by
 refine⟨?_, ?_, ?_, ?_, ?_, ?_, ?_, ?_, ?_⟩<;>apply decide_eq_decide.2<;>simp only[UInt8.le_iff_toNat_le,UInt8.lt_iff_toNat_lt,←UInt8.toNat_inj] <;>
  (have e1:(97:UInt8).toNat=97:=rfl;have e2:(122:UInt8).toNat=122:=rfl;have e3:(48:UInt8).toNat=48:=rfl;have e4:(57:UInt8).toNat=57:=rfl
   have e5:(64:UInt8).toNat=64:=rfl;have e6:(58:UInt8).toNat=58:=rfl;have e7:(59:UInt8).toNat=59:=rfl
   omega)
def qs2:IC:=sR [oP 2 (.mv cF)] (sR [mV 3 0,oP 4 (.bin .geq (.t 3) (.c (.int .u8 97))),mV 5 4,gT 6 5 (.mv (.t 0)),gT 7 5 (.bin .leq (.t 6) (.c (.int .u8 122))),pF 8 5 7,mV 9 8,gF 10 9 (.mv (.t 0)),gF 11 9 (.bin .geq (.t 10) (.c (.int .u8 48))),gF 12 9 (.mv (.t 11)),gT 13 12 (.mv (.t 0)),gT 14 12 (.bin .leq (.t 13) (.c (.int .u8 57))),gF 15 9 (.pick (.t 12) (.t 14) cF),pT 16 9 15,mV 17 16,gF 18 17 (.mv (.t 0)),gF 19 17 (.bin .eql (.t 18) (.c (.int .u8 64))),pT 20 17 19,mV 21 20,gF 22 21 (.mv (.t 0)),gF 23 21 (.bin .eql (.t 22) (.c (.int .u8 58))),pT 24 21 23,mV 25 24,gF 26 25 (.mv (.t 0)),gF 27 25 (.bin .eql (.t 26) (.c (.int .u8 59))),pT 28 25 27,mV 2 28] .ret)
theorem dg197:Dg Tryz.prog 197 Tryz.f197 qs2 [(.t 2)]:=⟨Tryz.func197,by kernel_rfl,by kernel_rfl⟩
theorem c197 (b:UInt8):FnR Tryz.prog G 197 [.int .u8 (b.toNat:Int)] (.bool (okB b)):=by
 refine mF dg197 Tryz.ntmps197 ?_
 obtain⟨e1,e2,e3,e4,e5,e6,e7,e8,e9⟩:=qcm b
 simp only[qs2,go_sem,e1,e2,e3,e4,e5,e6,e7]
 repeat' (first
  | (with_reducible refine gBn (λh=>?_) (λh=>?_)<;>(try simp only[h,go_sem,e1,e2,e3,e4,e5,e6,e7]))
  | (with_reducible refine gB (λh=>?_) (λh=>?_)<;>(try simp only[h,go_sem,e1,e2,e3,e4,e5,e6,e7])))
 all_goals(clear e1 e2 e3 e4 e5 e6 e7 e8 e9;simp only[okB,q4j, *,Bool.and_true,Bool.true_and,Bool.false_and,Bool.or_true,Bool.true_or,Bool.false_or,Bool.or_false,Bool.and_self])
theorem q4u {t:B} {i:Nat} (h:i<t.length) {p:UInt8→Bool} (hi:(t.take i).all p=true) (hp:p (t.getD i 0)=true):(t.take (i+1)).all p=true:=by
 rw[List.take_add_one,List.all_append,hi]
 simp only[List.getD,zE h,Option.getD_some] at hp
 simp[zE h,hp]
theorem q79 {t:B} {i:Nat} (h:i<t.length) (hp:okB (t.getD i 0)=false):txOk t=false:=by
 have:t.all okB=false:=by
  rw[List.all_eq_false]
  exact⟨t[i],List.getElem_mem h,by simpa[List.getD,zE h] using hp⟩
 simp[txOk,this]
def qvq:IC:=sR [oP 2 (.mv cF)] (.seq (sR [oP 3 (.mv (.c i0))] (.block 0 (.loop (.seq (sR [mV 4 3,mV 5 0,oP 6 (.lens (.t 5)),bN 7 .lss 4 6] (cD 7 .skip (.exit 0))) (.seq (.block 1 (sR [mV 10 0,mV 11 3,oP 12 (.idx (.t 10) (.t 11)),oP 13 (.call 197 [.t 12]),oP 14 (.un .not (.t 13))] (cD 14 (sR [oP 2 (.mv cF)] .ret) .skip))) (.reg [mV 8 3,oP 9 (.bin .add (.t 8) (cI 1)),mV 3 9])))))) (sR [mV 15 0,oP 16 (.lens (.t 15)),oP 17 (.bin .leq (.t 16) (cI 40)),mV 2 17] .ret))
theorem dg161:Dg Tryz.prog 161 Tryz.f161 qvq [(.t 2)]:=⟨Tryz.func161,by kernel_rfl,by kernel_rfl⟩
theorem qru (t:B) (hl:t.length≤2000000:=by omega):FnR Tryz.prog G 161 [.str t] (.bool (txOk t)):=by
 refine mF dg161 Tryz.ntmps161 ?_
 simp only[qvq,go_sem]
 refine q0h (λi:Nat=>⟨q0e [(0,.str t),(3,.int .i64 (i:Int))],q09 []⟩) (λi=>t.length - i) (λi=>i≤t.length∧(t.take i).all okB=true) 0 (leQ []) ⟨Nat.zero_le _,by simp⟩ ?_
 intro i ⟨hi,ha⟩
 simp only[go_sem]
 with_reducible repeat' (first|refine br ?_ ?_<;>intro h e<;>(try simp only[e,go_sem])<;>clear e|rw[q01 (by omega)]|refine sd ?_<;>try simp only[go_sem]|(first|refine cr (c197 ..) ?_)<;>try simp only[go_sem]|fail)
 ·exact⟨i+1,by omega,⟨by omega,q4u (by omega) ha h⟩,(leQ [])⟩
 ·exact q79 (by omega) h
 ·have:i=t.length:=by omega
  subst this
  simp only[List.take_length] at ha
  simp only[txOk,ha,Bool.true_and]
  apply decide_eq_decide.2;omega
theorem qey (c:UInt8) (s:B):Lib.index s [c]=if c∈s then((s.takeWhile λb=>decide (b≠c)).length:Int) else -1:=by
 induction s with
 | nil=>rfl
 | cons b l ih =>
   unfold Lib.index
   by_cases h:b=c
   ·subst h;simp[List.isPrefixOf]
   ·have h':¬c=b:=λe=>h e.symm
    have hp:([c]:B).isPrefixOf (b::l)=false:=by simp[List.isPrefixOf,h']
    rw[hp,if_neg (by simp),ih]
    by_cases hm:c∈l
    ·simp[hm,h,h']
    ·simp[hm,h']
theorem qfp (p:UInt8→Bool):∀s:B,s.take (s.takeWhile p).length=s.takeWhile p
 | []=>rfl
 | b::l=>by
   by_cases h:p b=true
   ·simp[h,qfp p l]
   ·simp[h]
theorem qff (p:UInt8→Bool):∀s:B,s.drop (s.takeWhile p).length=s.dropWhile p
 | []=>rfl
 | b::l=>by
   by_cases h:p b=true
   ·simp[h,qff p l]
   ·simp[h]
theorem qmi (s:B) (c:UInt8):Lib.cut s [c]=q6z s c:=by
 unfold Lib.cut q6z
 rw[qey]
 by_cases h:c∈s
 ·rw[if_pos h,if_pos (by omega),if_pos h]
  simp only[Int.toNat_natCast,qfp,zC,zN,←List.drop_drop,qff,List.drop_one,zZ]
 ·rw[if_neg h,if_neg (by decide),if_neg h]
theorem qcs (n:Nat) (h:n<100):Lib.decDigits n=qk8 n:=by
 unfold qk8
 rw[Lib.decDigits]
 split
 ·rfl
 ·rw[Lib.decDigits,dif_pos (by omega)]
  rfl
theorem qhy:∀k:Fin 100,Lib.atoiAll (qk8 k.val)=.ok (k.val:Int):=by decide +kernel
theorem q3y (k:Int) (h0:0≤k) (h1:k<100):Lib.atoiAll (dec k)=.ok k:=by
 have:=qhy ⟨k.toNat,by omega⟩
 simp only at this
 unfold dec
 rw[this]
 congr 1
 omega
theorem e49:entr Tryz.prog 49=true:=by kernel_rfl
theorem c49 (n:Int) (h:0≤n∧n<100:=by omega):FnR Tryz.prog G 49 [.int .i64 n] (.str (dec n)):=by
 obtain⟨k,rfl⟩:∃k:Nat,n=(k:Int):=⟨n.toNat,by omega⟩
 refine FnR.lib e49 rfl rfl λW hg=>(Tryz.strconv_Itoa_small k (by omega) W).mono λe W' ⟨he,hw⟩=>⟨?_,by subst hw;exact Below.refl _ _⟩
 rw[he,qcs k (by omega)]
 rfl
theorem e46:entr Tryz.prog 46=true:=by kernel_rfl
theorem c46 (s:B) (c:UInt8) (hs:s.length<4294967281:=by omega):FnR Tryz.prog G 46 [.str s,.str [c]] (.tup [.str (q6z s c).1,.str (q6z s c).2.1,.bool (q6z s c).2.2]):=by
 refine FnR.lib e46 rfl rfl λW hg=>?_
 obtain⟨⟨m,hm⟩,_⟩:=hg
 refine(Tryz.strings_Cut (mkStr s) (mkStr [c]) m W (by simpa[mkStr,ByteArray.size] using hs) hm).mono λe W' ⟨he,n,hw⟩=>⟨?_, ?_⟩
 ·rw[he]
  simp only[mkStr,qmi]
  rfl
 ·subst hw
  exact⟨rfl,rfl,rfl,Nat.le_refl _,λ_ _=>rfl⟩
theorem e262:entr Tryz.prog 262=true:=by kernel_rfl
theorem c262 (s p:B):FnR Tryz.prog G 262 [.str s,.str p] (.tup [.str (if p.isPrefixOf s then s.drop p.length else s),.bool (p.isPrefixOf s)]) :=
 FnR.lib e262 rfl rfl λW hg=>(Tryz.strings_CutPrefix (mkStr s) (mkStr p) W).mono λe W' ⟨he,hw⟩=>⟨he,by subst hw;exact Below.refl _ _⟩
theorem e187:entr Tryz.prog 187=true:=by kernel_rfl
theorem c187 (s:B) (hs:s.length≤281474976710656:=by omega):FnR Tryz.prog G 187 [.str s] (.str s) :=
 FnR.lib e187 rfl rfl λW hg=>(Tryz.stringslite_Clone (mkStr s) W (by simpa[mkStr,ByteArray.size] using hs)).mono λe W' ⟨he,hw⟩=>⟨he,hw⟩
def qtw:IC:=sR [oP 2 (.mv (.c s0))] (sR [mV 3 0,oP 4 (.call 187 [.t 3]),mV 2 4] .ret)
theorem dg150:Dg Tryz.prog 150 Tryz.f150 qtw [(.t 2)]:=⟨Tryz.func150,by kernel_rfl,by kernel_rfl⟩
theorem c150 (s:B) (hs:s.length≤281474976710656:=by omega):FnR Tryz.prog G 150 [.str s] (.str s):=by
 refine mF dg150 Tryz.ntmps150 ?_
 simp only[qtw,go_sem]
 refine q0s (c187 _ hs) rfl rfl ?_
 simp only[go_sem]
def AtoiP (s:B) (r:V) (o:List Hs):Prop:=o=[]∧((∃n:Int,r=.tup [.int .i64 n,.nile]∧∀k:Int,0≤k→k<100→s=dec k→n=k)∨(∃n:Int,r=.tup [.int .i64 n,.erre]∧∀k:Int,0≤k→k<100→s≠dec k))
theorem e149:entr Tryz.prog 149=true:=by kernel_rfl
theorem qe4 {w:World} {O:Nat→Prop} {ρ:Nat→VL.Loc} {h:Nat→Hs} (n:Int) (t:TypeId) (N:Nat):Den w O ρ h (.tup [.int .i64 n,.erre]) (.tuple #[.int .i64 n,.iface t (.pointer (some ⟨N,0,none⟩))]):=by
 refine⟨[.int .i64 n,.iface t (.pointer (some ⟨N,0,none⟩))],rfl,rfl,λj v u hv hu=>?_⟩
 match j,hv,hu with
 | 0,hv,hu=>cases hv;cases hu;exact Imm.int _ _
 | 1,hv,hu=>cases hv;cases hu;exact Imm.erre _ _
theorem c149 (s:B) (hs:s.length≤2000000:=by omega):FnP Tryz.prog G 149 0 [] [.str s] (AtoiP s):=by
 have key:FnP Tryz.prog G 149 0 [] [.str s] (λr o=>o=[]∧((∃n:Int,r=.tup [.int .i64 n,.nile]∧∀k:Int,0≤k→k<100→s=dec k→n=k)∨(∃n:Int,r=.tup [.int .i64 n,.erre]∧∀k:Int,0≤k→k<100→s≠dec k))):=by
  have hz:(mkStr s).size≤2000000:=by simpa[mkStr,ByteArray.size] using hs
  have hl:(mkStr s).data.toList=s:=by simp[mkStr]
  rcases ha:Lib.atoiAll s with v|_|_
  ·refine FnP.lib (us:=[.string (mkStr s)]) e149 rfl ⟨_,.inl ⟨v,rfl,λk h0 h1 h2=>?_⟩⟩ λW hg=>(Any.strconv_Atoi_ok Tryz.laysC172 (mkStr s) (by omega) v (by rw[hl];exact ha) W).mono λe W' ⟨he,hw⟩=>⟨?_,_,_,he,.inl ⟨v,rfl,λk h0 h1 h2=>?_⟩,λO _=>q7b rfl⟩
   ·rw[h2,q3y k h0 h1] at ha;cases ha;rfl
   ·rcases hw with rfl|⟨t,rfl⟩
    ·exact Below.refl _ _
    ·exact Lib.bytesWorld_below W _ t
   ·rw[h2,q3y k h0 h1] at ha;cases ha;rfl
  ·refine FnP.lib (us:=[.string (mkStr s)]) e149 rfl ⟨_,.inr ⟨0,rfl,λk h0 h1 h2=>?_⟩⟩ λW hg=>?_
   ·rw[h2,q3y k h0 h1] at ha;cases ha
   obtain⟨_,⟨ev,hv,hev⟩,_⟩:=hg
   refine(Any.strconv_Atoi_syntax Tryz.laysC172 (mkStr s) (by omega) (by rw[hl];exact ha) ev W hv hev).mono λe W' ⟨N,he,hN,_,hb⟩=>⟨hb,_,_,he,.inr ⟨0,rfl,λk h0 h1 h2=>?_⟩,λO hO=>qe4 _ _ N⟩
   ·rw[h2,q3y k h0 h1] at ha;cases ha
  ·refine FnP.lib (us:=[.string (mkStr s)]) e149 rfl ⟨_,.inr ⟨0,rfl,λk h0 h1 h2=>?_⟩⟩ λW hg=>?_
   ·rw[h2,q3y k h0 h1] at ha;cases ha
   obtain⟨_,_,ev,hv,hev⟩:=hg
   refine(Any.strconv_Atoi_range Tryz.laysC172 (mkStr s) (by omega) (by rw[hl];exact ha) ev W hv hev).mono λe W' ⟨N,he,hN,_,hb⟩=>⟨hb,_,_,he,.inr ⟨_,rfl,λk h0 h1 h2=>?_⟩,λO hO=>qe4 _ _ N⟩
   ·rw[h2,q3y k h0 h1] at ha;cases ha
 exact key
theorem qs4 (b:UInt8):FnR Tryz.prog G 147 [.int .u8 (b.toNat:Int),.int .u8 48] (.bool (q4j b 48)):=c147 b 48
theorem fig49 (b:UInt8):FnR Tryz.prog G 147 [.int .u8 (b.toNat:Int),.int .u8 49] (.bool (q4j b 49)):=c147 b 49
theorem qa5 {t:B} {i:Nat} (h:i<t.length) (hp:okB (t.getD i default)=false):txOk t=false:=by
 refine q79 h ?_
 have:t.getD i default=t.getD i 0:=by simp[List.getD,h]
 rwa [←this]
theorem q70 {t:B} {i:Nat} (h:i<t.length) {p:UInt8→Bool} (hi:(t.take i).all p=true) (hp:p (t.getD i default)=true):(t.take (i+1)).all p=true:=by
 refine q4u h hi ?_
 have:t.getD i default=t.getD i 0:=by simp[List.getD,h]
 rwa [←this]
theorem qpz (b:UInt8):okB b=((!decide (b<97)&&!decide (122<b))||q4j b 48||decide (b=64)||decide (b=58)||decide (b=59)):=by
 have h1:decide (97≤b)=!decide (b<97):=by rw[←decide_not];exact decide_eq_decide.2 UInt8.not_lt.symm
 have h2:decide (b≤122)=!decide (122<b):=by rw[←decide_not];exact decide_eq_decide.2 UInt8.not_lt.symm
 simp only[okB,h1,h2]
def qrt:IC:=sR [oP 2 (.mv cF)] (.seq (sR [mV 5 0,oP 6 (.s2b (.t 5)),oP 7 (.len (.t 6)),oP 8 (.mv (.c i0))] (.block 0 (.loop (sR [bN 9 .lss 8 7] (.seq (cD 9 .skip (.exit 0)) (.seq (.block 1 (sR [oP 10 (.iad 1 (.t 6) (.t 8)),lD 11 1 10,mV 4 11] (sR [mV 12 4,oP 13 (.call 147 [.t 12,.c (.int .u8 48)]),oP 14 (.un .not (.t 13)),mV 15 14,gT 16 15 (.mv (.t 4)),gT 17 15 (.bin .neq (.t 16) (.c (.int .u8 64))),pF 18 15 17,mV 19 18,gT 20 19 (.mv (.t 4)),gT 21 19 (.bin .neq (.t 20) (.c (.int .u8 58))),pF 22 19 21,mV 23 22,gT 24 23 (.mv (.t 4)),gT 25 23 (.bin .neq (.t 24) (.c (.int .u8 59))),pF 26 23 25,mV 27 26,gT 28 27 (.mv (.t 4)),gT 29 27 (.bin .lss (.t 28) (.c (.int .u8 97))),gT 30 27 (.mv (.t 29)),gF 31 30 (.mv (.t 4)),gF 32 30 (.bin .gtr (.t 31) (.c (.int .u8 122))),gT 33 27 (.pick (.t 30) cT (.t 32)),pF 34 27 33] (cD 34 (sR [oP 2 (.mv cF)] .ret) .skip)))) (.reg [oP 35 (.bin .add (.t 8) (cI 1)),mV 8 35]))))))) (sR [mV 36 0,oP 37 (.lens (.t 36)),oP 38 (.bin .leq (.t 37) (cI 40)),mV 2 38] .ret))
theorem dg134:Dg Tryz.prog 134 Tryz.f134 qrt [(.t 2)]:=⟨Tryz.func134,by kernel_rfl,by kernel_rfl⟩
theorem qpa (t:B) (hl:t.length≤2000000:=by omega):FnR Tryz.prog G 134 [.str t] (.bool (txOk t)):=by
 refine mF dg134 Tryz.ntmps134 ?_
 simp only[qrt,go_sem]
 with_reducible repeat' (first|refine br ?_ ?_<;>intro h e<;>(try simp only[e,go_sem])<;>clear e|rw[q01 (by omega)]|refine sd ?_<;>try simp only[go_sem]|fail)
 refine q0h (λi:Nat=>⟨q0e [(0,.str t),(6,.sl 1 (t.map λb=>[.int .u8 (b.toNat:Int)])),(7,.int .i64 t.length),(8,.int .i64 (i:Int))],q09 []⟩) (λi=>t.length - i) (λi=>i≤t.length∧(t.take i).all okB=true) 0 (leQ []) ⟨Nat.zero_le _,by simp⟩ ?_
 intro i ⟨hi,ha⟩
 simp only[go_sem]
 by_cases h:(i:Int)<t.length
 ·simp only[h,go_sem]
  refine effG (by omega) ?_
  generalize hb:t.getD i default=b
  obtain⟨e1,e2,e3,e4,e5,e6,e7,e8,e9⟩:=qcm b
  simp only[go_sem]
  refine q0s (qs4 _) rfl rfl ?_
  simp only[go_sem,e5,e6,e7,e8,e9]
  repeat' (first
   | (with_reducible refine gBn (λh=>?_) (λh=>?_)<;>(try simp only[h,go_sem,e5,e6,e7,e8,e9]))
   | (with_reducible refine cBn (λh=>?_) (λh=>?_)<;>(try simp only[h,go_sem,e5,e6,e7,e8,e9]))
   | (with_reducible refine cB (λh=>?_) (λh=>?_)<;>(try simp only[h,go_sem,e5,e6,e7,e8,e9]))
   | (with_reducible refine gB (λh=>?_) (λh=>?_)<;>(try simp only[h,go_sem,e5,e6,e7,e8,e9])))
  all_goals(clear e1 e2 e3 e4 e5 e6 e7 e8 e9)
  all_goals first
   | (refine⟨i+1,by omega,⟨by omega,q70 (t:=t) (i:=i) (by omega) ha (by rw[hb];simp only[qpz, *,Bool.or_true,Bool.true_or,Bool.not_false,Bool.and_self])⟩, ?_⟩;rw[q01 (by omega)];exact(leQ []))
   | (exact qa5 (t:=t) (i:=i) (by omega) (by rw[hb];simp only[qpz, *,Bool.or_false,Bool.false_or,Bool.not_true,Bool.not_false,Bool.false_and,Bool.and_false,Bool.and_self]))
 ·simp only[h,go_sem]
  have:i=t.length:=by omega
  subst this
  simp only[List.take_length] at ha
  simp only[txOk,ha,Bool.true_and]
  apply decide_eq_decide.2;omega
def qmh (i:Nat) (b:UInt8):Bool:=match i with
 | 0=>decide (b=64)
 | 1=>q4j b 49
 | 2=>decide (b=58)
 | 3=>q4j b 49
 | 4=>q4j b 48
 | _=>false
theorem qjy (i:Nat) (b:UInt8):qmh i b=if(i:Int)=0 then decide ((b.toNat:Int)=64) else if(i:Int)=1 then q4j b 49 else if(i:Int)=3 then q4j b 49 else if(i:Int)=2 then decide ((b.toNat:Int)=58) else if(i:Int)=4 then q4j b 48 else false:=by
 obtain⟨_,_,_,_,e5,e6,_,_,_⟩:=qcm b
 rw[e5,e6]
 match i with
 | 0=>rfl
 | 1=>rfl
 | 2=>rfl
 | 3=>rfl
 | 4=>rfl
 | n+5=>simp only[qmh];rw[if_neg (by omega),if_neg (by omega),if_neg (by omega),if_neg (by omega),if_neg (by omega)]
def qhp:Nat→B→Bool
 | _,[]=>true
 | k,b::r=>qmh k b&&qhp (k+1) r
theorem qqz (s:B) (h:s≠[]):q4g s=qhp 0 s:=by
 rcases s with _|⟨a,_|⟨b,_|⟨c,_|⟨d,_|⟨e,_|⟨f,r⟩⟩⟩⟩⟩⟩<;>simp[q4g,qhp,qmh,Bool.and_assoc] at h ⊢
theorem qef {s:B} {i:Nat} (h:i<s.length):qhp i (s.drop i)=(qmh i (s.getD i default)&&qhp (i+1) (s.drop (i+1))):=by
 rw[List.drop_eq_getElem_cons h]
 simp[qhp,List.getD,h]
def qpp:IC:=sR [oP 2 (.mv cF)] (.seq (sR [mV 6 0,oP 7 (.s2b (.t 6)),oP 8 (.len (.t 7)),oP 9 (.mv (.c i0))] (.block 0 (.loop (sR [bN 10 .lss 9 8] (.seq (cD 10 .skip (.exit 0)) (.seq (.block 1 (sR [mV 11 9,oP 12 (.iad 1 (.t 7) (.t 9)),lD 13 1 12,mV 3 11,mV 4 13] (sR [oP 5 (.mv cF)] (.seq (sR [mV 14 3] (.block 2 (sR [oP 16 (.bin .eql (.t 14) (.c i0)),mV 15 16] (cD 15 (.reg [mV 17 4,oP 18 (.bin .eql (.t 17) (.c (.int .u8 64))),mV 5 18]) (.seq (sR [oP 20 (.bin .eql (.t 14) (cI 1)),mV 19 20] (cD 19 .skip (.reg [oP 21 (.bin .eql (.t 14) (cI 3)),mV 19 21]))) (cD 19 (.reg [mV 22 4,oP 23 (.call 147 [.t 22,.c (.int .u8 49)]),mV 5 23]) (sR [oP 25 (.bin .eql (.t 14) (cI 2)),mV 24 25] (cD 24 (.reg [mV 26 4,oP 27 (.bin .eql (.t 26) (.c (.int .u8 58))),mV 5 27]) (sR [oP 29 (.bin .eql (.t 14) (cI 4)),mV 28 29] (cD 28 (.reg [mV 30 4,oP 31 (.call 147 [.t 30,.c (.int .u8 48)]),mV 5 31]) .skip)))))))))) (sR [mV 32 5,oP 33 (.un .not (.t 32))] (cD 33 (sR [oP 2 (.mv cF)] .ret) .skip)))))) (.reg [oP 34 (.bin .add (.t 9) (cI 1)),mV 9 34]))))))) (sR [oP 2 (.mv cT)] .ret))
theorem dg202:Dg Tryz.prog 202 Tryz.f202 qpp [(.t 2)]:=⟨Tryz.func202,by kernel_rfl,by kernel_rfl⟩
theorem c202 (s:B) (hs:s≠[]) (hl:s.length≤2000000:=by omega):FnR Tryz.prog G 202 [.str s] (.bool (q4g s)):=by
 refine mF dg202 Tryz.ntmps202 ?_
 simp only[qpp,go_sem]
 with_reducible repeat' (first|refine br ?_ ?_<;>intro h e<;>(try simp only[e,go_sem])<;>clear e|rw[q01 (by omega)]|refine sd ?_<;>try simp only[go_sem]|fail)
 refine q0h (λi:Nat=>⟨q0e [(7,.sl 1 (s.map λb=>[.int .u8 (b.toNat:Int)])),(8,.int .i64 s.length),(9,.int .i64 (i:Int))],q09 []⟩) (λi=>s.length - i) (λi=>i≤s.length∧q4g s=qhp i (s.drop i)) 0 (leQ []) ⟨Nat.zero_le _,by simpa using qqz s hs⟩ ?_
 intro i ⟨hi,ha⟩
 simp only[go_sem]
 by_cases h:(i:Int)<s.length
 ·simp only[h,go_sem]
  refine effG (by omega) ?_
  have hst:=qef (show i<s.length by omega)
  generalize hb:s.getD i default=b at hst ⊢
  obtain⟨_,_,_,_,e5,e6,_,_,_⟩:=qcm b
  simp only[go_sem]
  have hT:qmh i b=true→q4g s=qhp (i+1) (s.drop (i+1)):=λh1=>by rw[ha,hst,h1,Bool.true_and]
  have hF:qmh i b=false→q4g s=false:=λh1=>by rw[ha,hst,h1,Bool.false_and]
  try simp only[go_sem,e5,e6]
  with_reducible repeat' (first|refine br ?_ ?_<;>intro h e<;>(try simp only[e,go_sem])<;>clear e|rw[q01 (by omega)]|refine sd ?_<;>try simp only[go_sem]|(first|refine cr (qs4 ..) ?_|refine cr (fig49 ..) ?_)<;>try simp only[go_sem]|fail)
  all_goals first
   | exact hF (by clear hF hT ha hst hb;rw[qjy];first|(simp only[*,if_false];done)|simp[*])
   | (refine⟨i+1,by omega,⟨by omega,hT (by clear hF hT ha hst hb;rw[qjy];first|(simp only[*,if_false];done)|simp[*])⟩, ?_⟩;exact(leQ []))
 ·simp only[h,go_sem]
  have:i=s.length:=by omega
  subst this
  simpa[qhp] using ha.symm
theorem qw4 (b:UInt8):decide (dig b<1)=!q4j b 49:=by
 have hb:=b.toNat_lt
 have h1:(48:UInt8).toNat=48:=rfl
 have h2:(49:UInt8).toNat=49:=rfl
 have h3:(57:UInt8).toNat=57:=rfl
 simp only[dig,q4j,UInt8.le_iff_toNat_le,h1,h2,h3]
 by_cases c1:49≤b.toNat<;>by_cases c2:b.toNat≤57<;>by_cases c3:48≤b.toNat<;>simp[c1,c2,c3]<;>omega
theorem qwb (b:UInt8):decide (0≤dig b)=q4j b 48:=by
 have hb:=b.toNat_lt
 have h1:(48:UInt8).toNat=48:=rfl
 have h3:(57:UInt8).toNat=57:=rfl
 simp only[dig,q4j,UInt8.le_iff_toNat_le,h1,h3]
 by_cases c2:b.toNat≤57<;>by_cases c3:48≤b.toNat<;>simp[c2,c3]
 omega
def qr6:IC:=sR [oP 2 (.mv cF)] (sR [mV 4 0,oP 5 (.lens (.t 4)),mV 3 5] (.seq (sR [mV 6 3,oP 7 (.call 114 [.t 6,cI 1,cI 5]),oP 8 (.un .not (.t 7)),mV 9 8,gF 10 9 (.mv (.t 0)),gF 11 9 (.idx (.t 10) (.c i0)),gF 12 9 (.bin .neq (.t 11) (.c (.int .u8 64))),pT 13 9 12,mV 14 13,gF 15 14 (.mv (.t 3)),gF 16 14 (.bin .gtr (.t 15) (cI 1)),gF 17 14 (.mv (.t 16)),gT 18 17 (.mv (.t 0)),gT 19 17 (.idx (.t 18) (cI 1)),gT 20 17 (.call 177 [.t 19]),gT 21 17 (.bin .lss (.t 20) (cI 1)),gF 22 14 (.pick (.t 17) (.t 21) cF),pT 23 14 22,mV 24 23,gF 25 24 (.mv (.t 3)),gF 26 24 (.bin .gtr (.t 25) (cI 2)),gF 27 24 (.mv (.t 26)),gT 28 27 (.mv (.t 0)),gT 29 27 (.idx (.t 28) (cI 2)),gT 30 27 (.bin .neq (.t 29) (.c (.int .u8 58))),gF 31 24 (.pick (.t 27) (.t 30) cF),pT 32 24 31,mV 33 32,gF 34 33 (.mv (.t 3)),gF 35 33 (.bin .gtr (.t 34) (cI 3)),gF 36 33 (.mv (.t 35)),gT 37 36 (.mv (.t 0)),gT 38 36 (.idx (.t 37) (cI 3)),gT 39 36 (.call 177 [.t 38]),gT 40 36 (.bin .lss (.t 39) (cI 1)),gF 41 33 (.pick (.t 36) (.t 40) cF),pT 42 33 41] (cD 42 (sR [oP 2 (.mv cF)] .ret) .skip)) (sR [mV 43 3,oP 44 (.bin .lss (.t 43) (cI 5)),mV 45 44,gF 46 45 (.mv (.t 0)),gF 47 45 (.idx (.t 46) (cI 4)),gF 48 45 (.call 177 [.t 47]),gF 49 45 (.bin .geq (.t 48) (.c i0)),pT 50 45 49,mV 2 50] .ret)))
theorem dg143:Dg Tryz.prog 143 Tryz.f143 qr6 [(.t 2)]:=⟨Tryz.func143,by kernel_rfl,by kernel_rfl⟩
theorem c143 (s:B):FnR Tryz.prog G 143 [.str s] (.bool (q4g s)):=by
 refine mF dg143 Tryz.ntmps143 ?_
 simp only[qr6,go_sem]
 refine q0s (qda ..) rfl rfl ?_
 simp only[go_sem]
 have key:q0m s.length 1 5=true→(1≤s.length∧s.length≤5):=λh=>by rw[M.within_iff] at h;omega
 cases hw:q0m s.length 1 5<;>simp only[go_sem]
 ·rcases s with _|⟨a,_|⟨b,_|⟨c,_|⟨d,_|⟨e,_|⟨f,r⟩⟩⟩⟩⟩⟩<;>first|rfl|(exfalso;simp[q0m] at hw;done)
 ·obtain⟨k1,k2⟩:=key hw
  clear key hw
  have f49:∀x,q4j x 49=!decide (dig x<1):=λx=>by rw[qw4,Bool.not_not]
  have f48:∀x,q4j x 48=decide (0≤dig x):=λx=>(qwb x).symm
  have f64:∀x:UInt8,decide (x=64)=decide ((x.toNat:Int)=64):=λx=>(qcm x).2.2.2.2.1.symm
  have f58:∀x:UInt8,decide (x=58)=decide ((x.toNat:Int)=58):=λx=>(qcm x).2.2.2.2.2.1.symm
  rcases s with _|⟨a,_|⟨b,_|⟨c,_|⟨d,_|⟨e,_|⟨f,r⟩⟩⟩⟩⟩⟩
  ·simp at k1
  ·simp only[go_sem]
   with_reducible repeat' (first|refine br ?_ ?_<;>intro h e<;>(try simp only[e,go_sem])<;>clear e|rw[q01 (by omega)]|refine sd ?_<;>try simp only[go_sem]|(first|refine cr (qn5 ..) ?_)<;>try simp only[go_sem]|fail)
   all_goals first|omega|(simp only[q4g,f49,f48,f58,f64];simp_all)
  ·simp only[go_sem]
   with_reducible repeat' (first|refine br ?_ ?_<;>intro h e<;>(try simp only[e,go_sem])<;>clear e|rw[q01 (by omega)]|refine sd ?_<;>try simp only[go_sem]|(first|refine cr (qn5 ..) ?_)<;>try simp only[go_sem]|fail)
   all_goals first|omega|(simp only[q4g,f49,f48,f58,f64];simp_all)
  ·simp only[go_sem]
   with_reducible repeat' (first|refine br ?_ ?_<;>intro h e<;>(try simp only[e,go_sem])<;>clear e|rw[q01 (by omega)]|refine sd ?_<;>try simp only[go_sem]|(first|refine cr (qn5 ..) ?_)<;>try simp only[go_sem]|fail)
   all_goals first|omega|(simp only[q4g,f49,f48,f58,f64];simp_all)
  ·simp only[go_sem]
   with_reducible repeat' (first|refine br ?_ ?_<;>intro h e<;>(try simp only[e,go_sem])<;>clear e|rw[q01 (by omega)]|refine sd ?_<;>try simp only[go_sem]|(first|refine cr (qn5 ..) ?_)<;>try simp only[go_sem]|fail)
   all_goals first|omega|(simp only[q4g,f49,f48,f58,f64];simp_all)
  ·simp only[go_sem]
   with_reducible repeat' (first|refine br ?_ ?_<;>intro h e<;>(try simp only[e,go_sem])<;>clear e|rw[q01 (by omega)]|refine sd ?_<;>try simp only[go_sem]|(first|refine cr (qn5 ..) ?_)<;>try simp only[go_sem]|fail)
   all_goals first|omega|(simp only[q4g,f49,f48,f58,f64];simp_all)
  ·simp at k2
theorem q7f {t:B} {k:Nat} (h:k+1≤t.length):q2l t (k+1)=if q4g (t.drop (t.length - (k+1))) then k+1 else q2l t k:=by
 simp[q2l,h]
theorem qb6 (t:B):held t=q2l t (min 5 t.length):=by
 have:∀n,q2l t (t.length+n)=q2l t t.length:=λn=>by
  induction n with
  | zero=>rfl
  | succ n ih=>rw[←Nat.add_assoc,q2l,ih];simp;omega
 by_cases h:5≤t.length
 ·rw[Nat.min_eq_left h];rfl
 ·rw[Nat.min_eq_right (by omega),held]
  have:=this (5 - t.length)
  rwa [show t.length+(5 - t.length)=5 by omega] at this
theorem qbx (t:B):∀n,q2l t n≤n∧q2l t n≤t.length
 | 0=>⟨Nat.le_refl _,Nat.zero_le _⟩
 | n+1=>by
   have:=qbx t n
   simp only[q2l]
   split
   ·rename_i h;simp at h;omega
   ·omega
theorem qeo (t:B):held t≤5∧held t≤t.length:=qbx t 5
def qvl:IC:=sR [oP 2 (.mv (.c i0))] (.seq (sR [mV 4 0,oP 5 (.lens (.t 4)),oP 6 (.mn (cI 5) (.t 5)),mV 3 6] (.block 0 (.loop (.seq (sR [mV 7 3,oP 8 (.bin .gtr (.t 7) (.c i0))] (cD 8 .skip (.exit 0))) (.seq (.block 1 (sR [mV 11 0,mV 12 0,oP 13 (.lens (.t 12)),mV 14 3,bN 15 .sub 13 14,oP 16 (.sls (.t 11) (some (.t 15)) none),oP 17 (.call 202 [.t 16])] (cD 17 (sR [mV 18 3,mV 2 18] .ret) .skip))) (.reg [mV 9 3,oP 10 (.bin .sub (.t 9) (cI 1)),mV 3 10])))))) (sR [oP 2 (.mv (.c i0))] .ret))
theorem dg165:Dg Tryz.prog 165 Tryz.f165 qvl [(.t 2)]:=⟨Tryz.func165,by kernel_rfl,by kernel_rfl⟩
theorem c165 (t:B) (hl:t.length≤2000000:=by omega):FnR Tryz.prog G 165 [.str t] (.int .i64 (held t)):=by
 refine mF dg165 Tryz.ntmps165 ?_
 simp only[qvl,go_sem]
 refine q0h (λk:Nat=>⟨q0e [(0,.str t),(3,.int .i64 (k:Int))],q09 []⟩) (λk=>k) (λk=>k≤t.length∧held t=q2l t k) (min 5 t.length) (leQ []) ⟨Nat.min_le_right _ _,qb6 t⟩ ?_
 intro k ⟨hk,ha⟩
 simp only[go_sem]
 by_cases h:(0:Int)<k
 ·simp only[eq_true h,go_sem]
  with_reducible repeat' (first|refine br ?_ ?_<;>intro h e<;>(try simp only[e,go_sem])<;>clear e|rw[q01 (by omega)]|refine sd ?_<;>try simp only[go_sem]|fail)
  have e:((t.length:Int) - (k:Int)).toNat=t.length - k:=by omega
  obtain⟨k,rfl⟩:∃m,k=m+1:=⟨k - 1,by omega⟩
  simp only[e,go_sem,List.take_length]
  have hst:=q7f hk
  refine q0s (c202 _ (by intro h;have:=congrArg List.length h;simp at this;omega) (by simp;omega)) rfl rfl ?_
  simp only[go_sem]
  with_reducible repeat' (first|refine br ?_ ?_<;>intro h e<;>(try simp only[e,go_sem])<;>clear e|rw[q01 (by omega)]|refine sd ?_<;>try simp only[go_sem]|fail)
  ·rw[ha,hst,if_pos h]
  ·refine⟨k,by omega,⟨by omega,by rw[ha,hst,h];rfl⟩,(leQ [])⟩
 ·simp only[eq_false h,go_sem]
  have:k=0:=by omega
  subst this
  rw[ha];rfl
def ic93:IC:=sR [oP 2 (.mv (.c i0))] (.seq (sR [mV 4 0,oP 5 (.lens (.t 4)),oP 6 (.mn (cI 5) (.t 5)),mV 3 6] (.block 0 (.loop (.seq (sR [mV 7 3,oP 8 (.bin .gtr (.t 7) (.c i0))] (cD 8 .skip (.exit 0))) (.seq (.block 1 (sR [mV 11 0,mV 12 0,oP 13 (.lens (.t 12)),mV 14 3,bN 15 .sub 13 14,oP 16 (.sls (.t 11) (some (.t 15)) none),oP 17 (.call 143 [.t 16])] (cD 17 (sR [mV 18 3,mV 2 18] .ret) .skip))) (.reg [mV 9 3,oP 10 (.bin .sub (.t 9) (cI 1)),mV 3 10])))))) (sR [oP 2 (.mv (.c i0))] .ret))
theorem dg93:Dg Tryz.prog 93 Tryz.f93 ic93 [(.t 2)]:=⟨Tryz.func93,by kernel_rfl,by kernel_rfl⟩
theorem c93 (t:B) (hl:t.length≤2000000:=by omega):FnR Tryz.prog G 93 [.str t] (.int .i64 (held t)):=by
 refine mF dg93 Tryz.ntmps93 ?_
 simp only[ic93,go_sem]
 refine q0h (λk:Nat=>⟨q0e [(0,.str t),(3,.int .i64 (k:Int))],q09 []⟩) (λk=>k) (λk=>k≤t.length∧held t=q2l t k) (min 5 t.length) (leQ []) ⟨Nat.min_le_right _ _,qb6 t⟩ ?_
 intro k ⟨hk,ha⟩
 simp only[go_sem]
 by_cases h:(0:Int)<k
 ·simp only[eq_true h,go_sem]
  with_reducible repeat' (first|refine br ?_ ?_<;>intro h e<;>(try simp only[e,go_sem])<;>clear e|rw[q01 (by omega)]|refine sd ?_<;>try simp only[go_sem]|fail)
  have e:((t.length:Int) - (k:Int)).toNat=t.length - k:=by omega
  obtain⟨k,rfl⟩:∃m,k=m+1:=⟨k - 1,by omega⟩
  simp only[e,go_sem,List.take_length]
  have hst:=q7f hk
  with_reducible repeat' (first|refine br ?_ ?_<;>intro h e<;>(try simp only[e,go_sem])<;>clear e|rw[q01 (by omega)]|refine sd ?_<;>try simp only[go_sem]|(first|refine cr (c143 ..) ?_)<;>try simp only[go_sem]|fail)
  ·rw[ha,hst,if_pos h]
  ·refine⟨k,by omega,⟨by omega,by rw[ha,hst,h];rfl⟩,(leQ [])⟩
 ·simp only[eq_false h,go_sem]
  have:k=0:=by omega
  subst this
  rw[ha];rfl
theorem qe2 {a p:Int} (h:E.any ⟨a,p⟩=true):(0≤a∧a<100)∧(0≤p∧p<100):=by
 obtain⟨h1,h2,_⟩:=qea _ (E.any_iff.1 h)
 exact⟨h1,h2⟩
theorem q8u {e:E}:e.text.length≤4:=by
 by_cases h:e.any=true
 ·rw[q5w h];split<;>omega
 ·simp[E.text,h]
def ic92:IC:=sR [oP 1 (.box 63 (.t 0)),oP 2 (.mv (.c s0))] (.seq (sR [lA 3 2 1,oP 4 (.call 142 [.t 3]),oP 5 (.un .not (.t 4))] (cD 5 (sR [oP 2 (.mv (.c s0))] .ret) .skip)) (.seq (.drw [0,1,3,7,0,16,55,127,255] [(0,fD 6 0 1),(1,lD 7 1 6),(2,oP 8 (.call 89 [.t 7])),(3,oP 9 (.bin .add (.t 8) (.c (.str [58])))),(4,fD 10 1 1),(5,lD 11 1 10),(6,oP 12 (.call 89 [.t 11])),(7,bN 13 .add 9 12),(8,mV 2 13)]) .ret))
theorem dg92:Dg Tryz.prog 92 Tryz.f92 ic92 [(.t 2)]:=⟨Tryz.func92,by kernel_rfl,by kernel_rfl⟩
theorem c92 (a p:Int):FnR Tryz.prog G 92 [.agg [.int .i64 a,.int .i64 p]] (.str (E.text ⟨a,p⟩)):=by
 refine mF dg92 Tryz.ntmps92 ?_
 simp only[ic92,go_sem]
 refine q0s (c142 ..) rfl rfl ?_
 have d1:=q8e a
 have d2:=q8e p
 cases h:E.any ⟨a,p⟩<;>simp only[go_sem]
 ·simp[E.text,h]
 ·obtain⟨h1,h2⟩:=qe2 h
  repeat' (first
   | (with_reducible refine chkI ?_ ?_;· kernel_rfl;try simp only[go_sem])
   | (with_reducible refine pureG (by simp;omega) ?_;try simp only[go_sem])
   | (refine q0s (c89 _ (by omega)) rfl rfl ?_;try simp only[go_sem]))
  simp[E.text,h]
def qw2:IC:=sR [oP 1 (.box 63 (.t 0)),oP 2 (.mv (.c s0))] (.seq (sR [lA 3 2 1,oP 4 (.call 133 [.t 3]),oP 5 (.un .not (.t 4))] (cD 5 (sR [oP 2 (.mv (.c s0))] .ret) .skip)) (.seq (.drw [0,1,3,7,0,16,55,127,255] [(0,fD 6 0 1),(1,lD 7 1 6),(2,oP 8 (.call 49 [.t 7])),(3,oP 9 (.bin .add (.t 8) (.c (.str [58])))),(4,fD 10 1 1),(5,lD 11 1 10),(6,oP 12 (.call 49 [.t 11])),(7,bN 13 .add 9 12),(8,mV 2 13)]) .ret))
theorem dg102:Dg Tryz.prog 102 Tryz.f102 qw2 [(.t 2)]:=⟨Tryz.func102,by kernel_rfl,by kernel_rfl⟩
theorem c102 (a p:Int):FnR Tryz.prog G 102 [.agg [.int .i64 a,.int .i64 p]] (.str (E.text ⟨a,p⟩)):=by
 refine mF dg102 Tryz.ntmps102 ?_
 simp only[qw2,go_sem]
 refine q0s (c133 ..) rfl rfl ?_
 have d1:=q8e a
 have d2:=q8e p
 cases h:E.any ⟨a,p⟩<;>simp only[go_sem]
 ·simp[E.text,h]
 ·obtain⟨h1,h2⟩:=qe2 h
  repeat' (first
   | (with_reducible refine chkI ?_ ?_;· kernel_rfl;try simp only[go_sem])
   | (with_reducible refine pureG (by simp;omega) ?_;try simp only[go_sem])
   | (refine q0s (c49 _ (by omega)) rfl rfl ?_;try simp only[go_sem]))
  simp[E.text,h]
def qrn:IC:=sR [oP 1 (.box 63 (.t 0)),oP 2 (.mv (.c s0))] (sR [lA 3 2 1,oP 4 (.call 102 [.t 3]),oP 5 (.bin .add (.c (.str [64])) (.t 4)),oP 6 (.bin .add (.t 5) (.c (.str [59]))),mV 2 6] .ret)
theorem dg264:Dg Tryz.prog 264 Tryz.f264 qrn [(.t 2)]:=⟨Tryz.func264,by kernel_rfl,by kernel_rfl⟩
theorem c264 (a p:Int):FnR Tryz.prog G 264 [.agg [.int .i64 a,.int .i64 p]] (.str (name ⟨a,p⟩)):=by
 refine mF dg264 Tryz.ntmps264 ?_
 simp only[qrn,go_sem]
 have d:=q8u (e:=⟨a,p⟩)
 refine q0s (c102 ..) rfl rfl ?_
 simp only[go_sem]
 repeat' (with_reducible refine pureG (by simp;omega) ?_;try simp only[go_sem])
 simp[name]
theorem q7p {t:B} {a p:Int} (h:E.text ⟨a,p⟩=t) (h1:E.any ⟨a,p⟩=true):q0u t=some ⟨a,p⟩:=by rw[←h];exact q3o h1
def q4z (t:B) (i:Nat):Int:=if i≤2 then 0 else if i=3 then dig (t.getD 2 0) else 10*dig (t.getD 2 0)+dig (t.getD 3 0)
theorem qjk:∀e∈qdi,dig (e.text.getD 0 0)=e.a∧q4z e.text e.text.length=e.p:=by decide
theorem qez (b:UInt8) : -1≤dig b∧dig b≤9:=by
 unfold dig q4j
 split
 ·rename_i h
  simp only[UInt8.le_iff_toNat_le,Bool.and_eq_true,decide_eq_true_eq] at h
  have h1:(48:UInt8).toNat=48:=rfl
  have h3:(57:UInt8).toNat=57:=rfl
  omega
 ·omega
def qqi:IC:=sR [oP 2 (.alloc 63 [i0,i0]),oP 3 (.mv cF)] (sR [mV 7 0,oP 8 (.lens (.t 7)),mV 4 8] (.seq (sR [mV 9 4,oP 10 (.call 114 [.t 9,cI 3,cI 4]),oP 11 (.un .not (.t 10))] (cD 11 (sR [oP 12 (.build [i0,i0] []),nP (.sto 2 (.t 2) (.t 12)),oP 3 (.mv cF)] .ret) .skip)) (sR [mV 13 0,oP 14 (.idx (.t 13) (.c i0)),oP 15 (.call 177 [.t 14]),oP 16 (.build [i0,i0] [(0,(1,.t 15))]),oP 5 (.alloc 63 [i0,i0]),nP (.sto 2 (.t 5) (.t 16))] (.seq (sR [oP 6 (.mv (cI 2))] (.block 0 (.loop (.seq (sR [mV 17 6,mV 18 4,bN 19 .lss 17 18] (cD 19 .skip (.exit 0))) (.seq (.block 1 (.drw [0,1,3,0,0,24,56,127,255,511] [(0,fD 22 1 5),(1,lD 23 1 22),(2,oP 24 (.bin .mul (cI 10) (.t 23))),(3,mV 25 0),(4,mV 26 6),(5,oP 27 (.idx (.t 25) (.t 26))),(6,oP 28 (.call 177 [.t 27])),(7,bN 29 .add 24 28),(8,fD 30 1 5),(9,nP (.sto 1 (.t 30) (.t 29)))])) (.reg [mV 20 6,oP 21 (.bin .add (.t 20) (cI 1)),mV 6 21])))))) (.seq (sR [lA 31 2 5,oP 32 (.call 92 [.t 31]),mV 33 0,bN 34 .neq 32 33] (cD 34 (sR [oP 35 (.build [i0,i0] []),nP (.sto 2 (.t 2) (.t 35)),oP 3 (.mv cF)] .ret) .skip)) (sR [lA 36 2 5,nP (.sto 2 (.t 2) (.t 36)),oP 3 (.mv cT)] .ret))))))
theorem dg156:Dg Tryz.prog 156 Tryz.f156 qqi [(.cell 2 2 true),(.t 3)]:=⟨Tryz.func156,by kernel_rfl,by kernel_rfl⟩
theorem c156 (t:B) (hl:t.length≤2000000:=by omega):FnR Tryz.prog G 156 [.str t] (rdV (q0u t)):=by
 refine mF dg156 Tryz.ntmps156 ?_
 have hlen:∀e,q0u t=some e→3≤t.length∧t.length≤4:=λe he=>by
  obtain⟨h1,h2⟩:=q1b he
  have:=q5w h1
  rw[h2] at this
  split at this<;>omega
 simp only[qqi,go_sem]
 refine q0s (qda ..) rfl rfl ?_
 simp only[go_sem]
 cases hw:q0m t.length 3 4<;>simp only[go_sem]
 ·have:q0u t=none:=by
   cases h:q0u t with
   | none=>rfl
   | some e =>
     have:=hlen e h
     have:q0m t.length 3 4=true:=M.within_iff.2 (by omega)
     rw[hw] at this;cases this
  simp[this,rdV,go_sem,E.zero]
 ·rw[M.within_iff] at hw
  with_reducible repeat' (first|refine br ?_ ?_<;>intro h e<;>(try simp only[e,go_sem])<;>clear e|rw[q01 (by omega)]|refine sd ?_<;>try simp only[go_sem]|(first|refine cr (qn5 ..) ?_)<;>try simp only[go_sem]|fail)
  refine q0h (λi:Nat=>⟨q0e [(0,.str t),(2,.pv 1002 0),(4,.int .i64 t.length),(5,.pv 1005 0),(6,.int .i64 (i:Int))],q09 [(1002,.var 63 [.int .i64 0,.int .i64 0]),(1005,.var 63 [.int .i64 (dig (t.getD 0 0)),.int .i64 (q4z t i)])]⟩) (λi=>t.length - i) (λi=>2≤i∧i≤t.length) 2 (leQ []) ⟨by omega,by omega⟩ ?_
  intro i ⟨hi,hil⟩
  simp only[go_sem]
  have dr:=qez (t.getD i 0)
  have dr2:=qez (t.getD 2 0)
  have pi:i<t.length → -10≤q4z t i∧q4z t i≤9∧q4z t (i+1)=10*q4z t i+dig (t.getD i 0):=λh=>by
   have:i=2∨i=3:=by omega
   rcases this with rfl|rfl<;>simp[q4z] at dr dr2 ⊢<;>omega
  by_cases h:(i:Int)<t.length
  ·simp only[eq_true h,go_sem]
   obtain⟨p1,p2,p3⟩:=pi (by omega)
   with_reducible repeat' (first|refine br ?_ ?_<;>intro h e<;>(try simp only[e,go_sem])<;>clear e|rw[q01 (by omega)]|refine sd ?_<;>try simp only[go_sem]|(first|refine cr (qn5 ..) ?_)<;>try simp only[go_sem]|fail)
   refine⟨i+1,by omega,⟨by omega,by omega⟩,(leQ [])⟩
  ·simp only[eq_false h,go_sem]
   have:i=t.length:=by omega
   subst this
   refine q0s (c92 ..) rfl rfl ?_
   simp only[go_sem]
   with_reducible repeat' (first|refine br ?_ ?_<;>intro h e<;>(try simp only[e,go_sem])<;>clear e|rw[q01 (by omega)]|refine sd ?_<;>try simp only[go_sem]|fail)
   ·have ha:E.any ⟨dig (t.getD 0 0),q4z t t.length⟩=true:=by
     cases hc:E.any ⟨dig (t.getD 0 0),q4z t t.length⟩ with
     | true=>rfl
     | false =>
       exfalso
       simp only[E.text,hc] at h
       rw[←h] at hw
       simp at hw
    simp[q7p h ha,rdV,go_sem]
   ·have hn:q0u t=none:=by
     cases hr:q0u t with
     | none=>rfl
     | some e =>
       exfalso
       obtain⟨e1,e2⟩:=q1b hr
       obtain⟨d1,d2⟩:=qjk e (E.any_iff.1 e1)
       rw[e2] at d1 d2
       rw[d1,d2] at h
       exact h e2
    simp[hn,rdV,go_sem,E.zero]
def qwn:IC:=sR [oP 2 (.alloc 63 [i0,i0]),oP 3 (.mv cF)] (sR [mV 13 0,oP 14 (.call 46 [.t 13,.c (.str [58])]),mV 12 14,eX 15 12 0,eX 16 12 1,eX 17 12 2,mV 4 15,mV 5 16,mV 6 17] (sR [mV 19 4,oP 20 (.call 149 [.t 19]),mV 18 20,eX 21 18 0,eX 22 18 1,mV 7 21,mV 8 22] (sR [mV 24 5,oP 25 (.call 149 [.t 24]),mV 23 25,eX 26 23 0,eX 27 23 1,mV 9 26,mV 10 27] (sR [mV 28 7,mV 29 9,oP 30 (.build [i0,i0] [(0,(1,.t 28)),(1,(1,.t 29))]),oP 11 (.alloc 63 [i0,i0]),nP (.sto 2 (.t 11) (.t 30))] (.seq (sR [mV 31 8,oP 32 (.isn true (.t 31)),mV 33 32,gF 34 33 (.mv (.t 10)),gF 35 33 (.isn true (.t 34)),pT 36 33 35,mV 37 36,gF 38 37 (.ld 2 true (.t 11)),gF 39 37 (.call 133 [.t 38]),gF 40 37 (.un .not (.t 39)),pT 41 37 40,mV 42 41,gF 43 42 (.ld 2 true (.t 11)),gF 44 42 (.call 102 [.t 43]),gF 45 42 (.mv (.t 0)),gF 46 42 (.bin .neq (.t 44) (.t 45)),pT 47 42 46] (cD 47 (sR [oP 48 (.build [i0,i0] []),nP (.sto 2 (.t 2) (.t 48)),oP 3 (.mv cF)] .ret) .skip)) (sR [lA 49 2 11,nP (.sto 2 (.t 2) (.t 49)),oP 3 (.mv cT)] .ret))))))
theorem dg148:Dg Tryz.prog 148 Tryz.f148 qwn [(.cell 2 2 true),(.t 3)]:=⟨Tryz.func148,by kernel_rfl,by kernel_rfl⟩
theorem c148 (t:B) (hl:t.length≤2000000:=by omega):FnR Tryz.prog G 148 [.str t] (rdV (q0u t)):=by
 refine mF dg148 Tryz.ntmps148 ?_
 simp only[qwn,go_sem]
 refine q0s (c46 t 58) rfl rfl ?_
 simp only[go_sem]
 have hcl:(q6z t 58).1.length≤2000000∧(q6z t 58).2.1.length≤2000000:=by
  have:=qbd t 58
  omega
 have hr:∀e,q0u t=some e→(q6z t 58).1=dec e.a∧(q6z t 58).2.1=dec e.p∧(0≤e.a∧e.a<100)∧(0≤e.p∧e.p<100):=λe he=>by
  obtain⟨h1,h2,h3⟩:=qaf he
  rw[h1];exact⟨rfl,rfl,h2,h3⟩
 refine qer (c149 _ (by omega)) rfl (λr o hp=>⟨by rcases hp.2 with⟨n,rfl,_⟩|⟨n,rfl,_⟩<;>rfl,hp.1⟩) (λr1 hp1=>?_)
 rcases hp1.2 with⟨n1,rfl,hn1⟩|⟨n1,rfl,hn1⟩<;>simp only[go_sem] <;>
  (refine qer (c149 _ (by omega)) rfl (λr o hp=>⟨by rcases hp.2 with⟨n,rfl,_⟩|⟨n,rfl,_⟩<;>rfl,hp.1⟩) (λr2 hp2=>?_)
   rcases hp2.2 with⟨n2,rfl,hn2⟩|⟨n2,rfl,hn2⟩<;>simp only[go_sem])
 ·have hx:∀e,q0u t=some e→n1=e.a∧n2=e.p:=λe he=>by
   obtain⟨a1,a2,a3,a4⟩:=hr e he
   exact⟨hn1 _ a3.1 a3.2 a1,hn2 _ a4.1 a4.2 a2⟩
  with_reducible repeat' (first|refine br ?_ ?_<;>intro h e<;>(try simp only[e,go_sem])<;>clear e|rw[q01 (by omega)]|refine sd ?_<;>try simp only[go_sem]|(first|refine cr (c133 ..) ?_|refine cr (c102 ..) ?_)<;>try simp only[go_sem]|fail)
  ·have hn:q0u t=none:=by
    cases hr2:q0u t with
    | none=>rfl
    | some e =>
      exfalso
      obtain⟨rfl,rfl⟩:=hx e hr2
      rw[(q1b hr2).1] at h
      cases h
   simp[hn,rdV,go_sem,E.zero]
  ·rename_i ha
   simp[q7p h (by simpa using ha),rdV,go_sem]
  ·have hn:q0u t=none:=by
    cases hr2:q0u t with
    | none=>rfl
    | some e =>
      exfalso
      obtain⟨rfl,rfl⟩:=hx e hr2
      exact h (q1b hr2).2
   simp[hn,rdV,go_sem,E.zero]
 all_goals
  have hn:q0u t=none:=by
   cases hr2:q0u t with
   | none=>rfl
   | some e =>
     exfalso
     obtain⟨a1,a2,a3,a4⟩:=hr e hr2
     first|exact hn1 _ a3.1 a3.2 a1|exact hn2 _ a4.1 a4.2 a2
  simp[hn,rdV,go_sem,E.zero]
def qtp:IC:=sR [oP 2 (.alloc 63 [i0,i0]),oP 3 (.mv (.c i0))] (.seq (sR [oP 4 (.mv (cI 5))] (.block 0 (.loop (.seq (sR [mV 7 4,oP 8 (.bin .leq (.t 7) (cI 6)),mV 9 8,gT 10 9 (.mv (.t 4)),gT 11 9 (.mv (.t 0)),gT 12 9 (.lens (.t 11)),gT 13 9 (.bin .leq (.t 10) (.t 12)),pF 14 9 13] (cD 14 .skip (.exit 0))) (.seq (.block 1 (sR [mV 17 0,oP 18 (.idx (.t 17) (.c i0)),oP 19 (.bin .eql (.t 18) (.c (.int .u8 64))),mV 20 19,gT 21 20 (.mv (.t 0)),gT 22 20 (.mv (.t 4)),gT 23 20 (.bin .sub (.t 22) (cI 1)),gT 24 20 (.idx (.t 21) (.t 23)),gT 25 20 (.bin .eql (.t 24) (.c (.int .u8 59))),pF 26 20 25] (cD 26 (sR [mV 28 0,mV 29 4,oP 30 (.bin .sub (.t 29) (cI 1)),oP 31 (.sls (.t 28) (some (cI 1)) (some (.t 30))),oP 32 (.call 156 [.t 31]),mV 27 32,eX 33 27 0,eX 34 27 1,oP 5 (.alloc 63 [i0,i0]),nP (.sto 2 (.t 5) (.t 33)),mV 6 34] (sR [mV 35 6] (cD 35 (sR [lA 36 2 5,mV 37 4,nP (.sto 2 (.t 2) (.t 36)),mV 3 37] .ret) .skip))) .skip))) (.reg [mV 15 4,oP 16 (.bin .add (.t 15) (cI 1)),mV 4 16])))))) (sR [oP 38 (.build [i0,i0] []),nP (.sto 2 (.t 2) (.t 38)),oP 3 (.mv (.c i0))] .ret))
theorem dg257:Dg Tryz.prog 257 Tryz.f257 qtp [(.cell 2 2 true),(.t 3)]:=⟨Tryz.func257,by kernel_rfl,by kernel_rfl⟩
theorem q3x {s:B} {e:E} (h:q0y s=some e):∃k,(k=3∨k=4)∧e.text.length=k∧s.getD 0 0=64∧s.getD (k+1) 0=59∧(s.take (k+1)).drop 1=e.text∧k+2≤s.length:=by
 obtain⟨h1,r,rfl⟩:=q20 h
 have hl:=q5w h1
 refine⟨e.text.length,by rw[hl];split<;>simp,rfl,by simp[name], ?_, ?_, ?_⟩
 ·simp[name,List.getD]
 ·simp[name]
 ·simp[name]
theorem qf1 {s:B} {e:E} {k:Nat} (h0:s.getD 0 0=64) (h1:s.getD (k+1) 0=59) (h2:q0u ((s.take (k+1)).drop 1)=some e) (hl:k+2≤s.length):q0y s=some e:=by
 obtain⟨c,r,rfl⟩:∃c r,s=c::r:=by cases s with|nil=>simp at hl|cons c r=>exact⟨c,r,rfl⟩
 obtain⟨a1,a2⟩:=q1b h2
 simp only[List.getD_cons_zero] at h0
 subst h0
 simp only[List.getD_cons_succ,zC,List.take_succ_cons,List.drop_succ_cons,List.drop_zero] at h1 h2 hl a2
 have:(64::r:B)=name e++r.drop (k+1):=by
  simp only[name,a2,List.cons_append,List.cons.injEq,true_and,List.append_assoc]
  have hk:r[k]?=some 59:=by
   have:k<r.length:=by omega
   simp[List.getD,this] at h1 ⊢
   exact h1
  conv=>lhs;rw[←List.take_append_drop k r]
  congr 1
  rw[List.drop_eq_getElem_cons (show k<r.length by omega)]
  simp[zE (show k<r.length by omega)] at hk
  simp[hk]
 rw[this]
 exact q4e a1 _
theorem c257 (s:B) (hs:s≠[]) (hl:s.length≤2000000:=by omega):FnR Tryz.prog G 257 [.str s] (.tup [.agg [.int .i64 ((q0y s).getD .zero).a,.int .i64 ((q0y s).getD .zero).p],.int .i64 (match q0y s with|some e=>(name e).length|none=>0)]):=by
 refine mF dg257 Tryz.ntmps257 ?_
 simp only[qtp,go_sem]
 have hp:1≤s.length:=List.length_pos_iff.2 hs
 refine q0h (λi:Nat=>⟨q0e [(0,.str s),(2,.pv 1002 0),(4,.int .i64 (i:Int))],q09 [(1002,.var 63 [.int .i64 0,.int .i64 0])]⟩) (λi=>7 - i) (λi=>5≤i∧i≤7∧∀e,q0y s=some e→i≤e.text.length+2) 5 (leQ []) ⟨by omega,by omega,λe he=>by obtain⟨k,h1,h2,_⟩:=q3x he;omega⟩ ?_
 intro i ⟨h5,h7,hn⟩
 simp only[go_sem]
 obtain⟨k,rfl⟩:∃k,i=k+2:=⟨i - 2,by omega⟩
 have e2:(((k+2:Nat):Int) - 1).toNat=k+1:=by omega
 with_reducible repeat' (first|refine br ?_ ?_<;>intro h e<;>(try simp only[e,go_sem])<;>clear e|rw[q01 (by omega)]|refine sd ?_<;>try simp only[go_sem]|fail)
 ·rename_i g0
  simp only[e2] at *
  refine q0s (c156 _ (by simp;omega)) rfl rfl ?_
  simp only[go_sem]
  have g1:s.getD 0 0=64:=UInt8.toNat_inj.1 (Int.ofNat_inj.1 g0)
  have g2:s.getD (k+1) 0=59:=UInt8.toNat_inj.1 (Int.ofNat_inj.1 h)
  have hk:k+2≤s.length:=by omega
  cases hr:q0u ((s.take (k+1)).drop 1) with
  | some e =>
    have he:=qf1 g1 g2 hr hk
    obtain⟨a1,a2⟩:=q1b hr
    simp only[go_sem,Option.isSome_some,he,Option.getD_some]
    have:(name e).length=k+2:=by rw[name];simp[a2];omega
    simp[this]
  | none =>
    simp only[go_sem,Option.isSome_none]
    with_reducible repeat' (first|refine br ?_ ?_<;>intro h e<;>(try simp only[e,go_sem])<;>clear e|rw[q01 (by omega)]|refine sd ?_<;>try simp only[go_sem]|fail)
    refine⟨k+3,by omega,⟨by omega,by omega,λe he=>?_⟩,(leQ [])⟩
    obtain⟨k',b1,b2,b3,b4,b5,b6⟩:=q3x he
    have:=hn e he
    rcases Nat.lt_or_ge k k' with h|h
    ·omega
    ·exfalso
     have:k'=k:=by omega
     subst this
     rw[b5,q3o (q20 he).1] at hr
     cases hr
 ·refine⟨k+3,by omega,⟨by omega,by omega,λe he=>?_⟩,(leQ [])⟩
  obtain⟨k',b1,b2,b3,b4,b5,b6⟩:=q3x he
  have:=hn e he
  rcases Nat.lt_or_ge k k' with h|h
  ·omega
  ·exfalso
   have:k'=k:=by omega
   subst this
   rename_i hq
   rw[e2,b4] at hq
   exact absurd rfl hq
 ·refine⟨k+3,by omega,⟨by omega,by omega,λe he=>?_⟩,(leQ [])⟩
  obtain⟨k',b1,b2,b3,b4,b5,b6⟩:=q3x he
  rw[b3] at h
  exact absurd rfl h
 ·have:q0y s=none:=by
   cases hq:q0y s with
   | none=>rfl
   | some e =>
     obtain⟨k',b1,b2,b3,b4,b5,b6⟩:=q3x hq
     have:=hn e hq
     omega
  simp[this,E.zero]
 ·have:q0y s=none:=by
   cases hq:q0y s with
   | none=>rfl
   | some e =>
     obtain⟨k',b1,b2,b3,b4,b5,b6⟩:=q3x hq
     have:=hn e hq
     omega
  simp[this,E.zero]
def qw6:IC:=sR [oP 2 (.alloc 63 [i0,i0]),oP 3 (.mv cF)] (sR [mV 10 0,oP 11 (.call 46 [.t 10,.c (.str [59])]),mV 9 11,eX 12 9 0,eX 13 9 1,eX 14 9 2,mV 4 12,mV 5 13,mV 6 14] (sR [mV 16 4,oP 17 (.call 148 [.t 16]),mV 15 17,eX 18 15 0,eX 19 15 1,oP 7 (.alloc 63 [i0,i0]),nP (.sto 2 (.t 7) (.t 18)),mV 8 19] (sR [lA 20 2 7,mV 21 6,mV 22 21,gT 23 22 (.mv (.t 8)),pF 24 22 23,nP (.sto 2 (.t 2) (.t 20)),mV 3 24] .ret)))
theorem dg263:Dg Tryz.prog 263 Tryz.f263 qw6 [(.cell 2 2 true),(.t 3)]:=⟨Tryz.func263,by kernel_rfl,by kernel_rfl⟩
def rdN (s:B):Option E:=if 59∈s then q0u (s.takeWhile λb=>decide (b≠59)) else none
theorem c263 (s:B) (hl:s.length≤2000000:=by omega):FnR Tryz.prog G 263 [.str s] (.tup [.agg [.int .i64 ((q0u (q6z s 59).1).getD .zero).a,.int .i64 ((q0u (q6z s 59).1).getD .zero).p],.bool (rdN s).isSome]):=by
 refine mF dg263 Tryz.ntmps263 ?_
 simp only[qw6,go_sem]
 refine q0s (c46 s 59) rfl rfl ?_
 simp only[go_sem]
 have:=qbd s 59
 refine q0s (c148 (q6z s 59).1 (by omega)) rfl rfl ?_
 simp only[go_sem]
 with_reducible repeat' (first|refine br ?_ ?_<;>intro h e<;>(try simp only[e,go_sem])<;>clear e|rw[q01 (by omega)]|refine sd ?_<;>try simp only[go_sem]|fail)
 all_goals(simp only[q6z] at *;split at h<;>rename_i hm<;>simp_all[rdN])
def qqd:IC:=sR [oP 2 (.alloc 193 [i0,.bool false,i0,i0])] (.seq (sR [mV 8 0,oP 9 (.call 262 [.t 8,.c (.str [64])]),mV 7 9,eX 10 7 0,eX 11 7 1,mV 3 10,mV 4 11] (sR [mV 12 4] (cD 12 (sR [mV 14 3,oP 15 (.call 263 [.t 14]),mV 13 15,eX 16 13 0,eX 17 13 1,oP 5 (.alloc 63 [i0,i0]),nP (.sto 2 (.t 5) (.t 16)),mV 6 17] (sR [mV 18 6] (cD 18 (.seq (.drw [0,1,3,0,15,31] [(0,lA 19 2 5),(1,oP 20 (.call 264 [.t 19])),(2,oP 21 (.lens (.t 20))),(3,lA 22 2 5),(4,oP 23 (.build [i0,.bool false,i0,i0] [(0,(1,.t 21)),(1,(1,cT)),(2,(2,.t 22))])),(5,nP (.sto 4 (.t 2) (.t 23)))]) .ret) .skip))) .skip))) (sR [oP 24 (.build [i0,.bool false,i0,i0] [(0,(1,cI 1))]),nP (.sto 4 (.t 2) (.t 24))] .ret))
theorem dg242:Dg Tryz.prog 242 Tryz.f242 qqd [(.cell 2 4 true)]:=⟨Tryz.func242,by kernel_rfl,by kernel_rfl⟩
theorem c242 (s:B) (hs:s≠[]) (hl:s.length≤2000000:=by omega):FnR Tryz.prog G 242 [.str s] (.agg [.int .i64 (pc1 s).size,.bool (pc1 s).named,.int .i64 (pc1 s).e.a,.int .i64 (pc1 s).e.p]):=by
 refine mF dg242 Tryz.ntmps242 ?_
 simp only[qqd,go_sem]
 obtain⟨c,r,rfl⟩:∃c r,s=c::r:=by cases s with|nil=>exact absurd rfl hs|cons c r=>exact⟨c,r,rfl⟩
 refine q0s (c262 _ _) rfl rfl ?_
 simp only[go_sem]
 simp only[zC] at hl
 have key:q0y (c::r)=if c=64 then rdN r else none:=by
  simp only[q0y,rdN]
  by_cases hc:c=64<;>by_cases h59:59∈r<;>simp[hc,h59]
 by_cases hc:c=64
 ·subst hc
  have e1:List.isPrefixOf [64] (64::r:B)=true:=by simp[List.isPrefixOf]
  simp only[e1,go_sem]
  refine q0s (c263 r) rfl rfl ?_
  simp only[go_sem]
  rw[if_pos rfl] at key
  cases hn:rdN r with
  | some e =>
    rw[hn] at key
    have h59:59∈r:=by
     by_cases h:59∈r
     ·exact h
     ·simp[rdN,h] at hn
    have he:q0u (q6z r 59).1=some e:=by
     simp only[rdN,if_pos h59] at hn
     simp only[q6z,if_pos h59];exact hn
    simp only[go_sem,Option.isSome_some,he,Option.getD_some]
    with_reducible repeat' (first|refine br ?_ ?_<;>intro h e<;>(try simp only[e,go_sem])<;>clear e|rw[q01 (by omega)]|refine sd ?_<;>try simp only[go_sem]|(first|refine cr (c264 ..) ?_)<;>try simp only[go_sem]|fail)
    simp[pc1,key]
  | none =>
    rw[hn] at key
    simp only[go_sem,Option.isSome_none]
    simp[pc1,key,E.zero]
 ·have e1:List.isPrefixOf [64] (c::r:B)=false:=by simp[List.isPrefixOf];exact λh=>hc h.symm
  rw[if_neg hc] at key
  simp only[e1,go_sem]
  simp[pc1,key,E.zero]
def qql:IC:=sR [oP 2 (.mv (.c .nils))] (sR [oP 6 (.bsl 193 4 []),mV 3 6] (.seq (sR [mV 7 0,mV 8 0,oP 9 (.lens (.t 8)),mV 10 0,oP 11 (.call 165 [.t 10]),bN 12 .sub 9 11,oP 13 (.sls (.t 7) none (some (.t 12))),mV 4 13] (.block 0 (.loop (.seq (sR [mV 14 4,oP 15 (.bin .neq (.t 14) (.c s0))] (cD 15 .skip (.exit 0))) (.block 1 (sR [mV 16 4,oP 17 (.call 242 [.t 16]),oP 5 (.alloc 193 [i0,.bool false,i0,i0]),nP (.sto 4 (.t 5) (.t 17))] (sR [mV 18 3,lA 19 4 5,oP 20 (.bsl 193 4 [.t 19]),oP 21 (.app 193 4 (.t 18) (.t 20)),mV 3 21] (.reg [mV 22 4,fD 23 0 5,lD 24 1 23,oP 25 (.sls (.t 22) (some (.t 24)) none),mV 4 25])))))))) (sR [mV 26 3,oP 27 (.call 243 [.t 26]),mV 2 27] .ret)))
theorem dg203:Dg Tryz.prog 203 Tryz.f203 qql [(.t 2)]:=⟨Tryz.func203,by kernel_rfl,by kernel_rfl⟩
theorem c203 (t:B) (hl:t.length≤2000000:=by omega):FnR Tryz.prog G 203 [.str t] (.sl 4 ((pieces t).map Pc.row)):=by
 refine mF dg203 Tryz.ntmps203 ?_
 simp only[qql,go_sem]
 have hh:=qeo t
 with_reducible repeat' (first|refine br ?_ ?_<;>intro h e<;>(try simp only[e,go_sem])<;>clear e|rw[q01 (by omega)]|refine sd ?_<;>try simp only[go_sem]|(first|refine cr (c165 ..) ?_)<;>try simp only[go_sem]|fail)
 have e0:((t.take ((t.length:Int) - (held t:Int)).toNat).drop 0)=body t:=by
  rw[List.drop_zero];unfold body;congr 1;omega
 refine q0h (λa:List Pc×B=>⟨q0e [(3,.own 1006 a.1.length),(4,.str a.2)],q09 [(1006,.arr 193 4 (a.1.map Pc.row))]⟩) (λa=>a.2.length) (λa=>a.1++pcs a.2=pieces t∧a.1.length+a.2.length≤t.length) ([],body t)
  (leN [] (by simp only[go_sem];first|done|exact e0.symm) (by simp only[go_sem];first|done|rfl) (by simp[q0b]) (by simp only[go_sem])) ⟨by rw[q2n];rfl,by have:=q3d t;simp;omega⟩ ?_
 intro⟨acc,rest⟩ ⟨h1,h2⟩
 simp only[go_sem]
 simp only at h1 h2
 by_cases hr:rest=[]
 ·subst hr
  simp only[go_sem]
  refine q0l (c243 (acc.map Pc.row)) [1006] true (by simp only[go_sem];simp) (by simp only[List.mem_singleton];rintro c rfl;rfl) rfl (.inl rfl) ?_
  simp only[go_sem]
  rw[←h1,qec,List.append_nil]
 ·simp only[eq_false hr,go_sem]
  refine q0s (c242 rest hr) rfl rfl ?_
  simp only[go_sem]
  obtain⟨p1,p2,p3⟩:=q2a hr
  with_reducible repeat' (first|refine br ?_ ?_<;>intro h e<;>(try simp only[e,go_sem])<;>clear e|rw[q01 (by omega)]|refine sd ?_<;>try simp only[go_sem]|fail)
  refine⟨(acc++[pc1 rest],rest.drop (pc1 rest).size),by simp;omega,⟨?_,by simp;omega⟩,leN [(1006,1021)] ?_ ?_ (by simp[q0b]) (by simp only[go_sem])⟩
  ·rw[←h1,q2t hr,List.append_assoc];rfl
  ·simp only[go_sem];simp
  ·simp only[go_sem];simp[Pc.row]
def qsc:IC:=sR [oP 2 (.mv (.c .nils))] (sR [oP 8 (.bsl 193 4 []),mV 3 8] (sR [mV 9 0,oP 10 (.lens (.t 9)),mV 11 0,oP 12 (.call 93 [.t 11]),bN 13 .sub 10 12,mV 4 13] (sR [oP 5 (.mv (.c i0))] (.seq (.block 0 (.loop (.seq (sR [mV 14 5,mV 15 4,bN 16 .lss 14 15] (cD 16 .skip (.exit 0))) (.block 1 (sR [mV 18 0,mV 19 5,mV 20 4,oP 21 (.sls (.t 18) (some (.t 19)) (some (.t 20))),oP 22 (.call 257 [.t 21]),mV 17 22,eX 23 17 0,eX 24 17 1,oP 6 (.alloc 63 [i0,i0]),nP (.sto 2 (.t 6) (.t 23)),mV 7 24] (.seq (sR [mV 25 7,oP 26 (.bin .gtr (.t 25) (.c i0))] (cD 26 (.reg [mV 27 3,mV 28 7,lA 29 2 6,oP 30 (.build [i0,.bool false,i0,i0] [(0,(1,.t 28)),(1,(1,cT)),(2,(2,.t 29))]),oP 31 (.bsl 193 4 [.t 30]),oP 32 (.app 193 4 (.t 27) (.t 31)),mV 3 32]) (sR [oP 7 (.mv (cI 1))] (.reg [mV 33 3,oP 34 (.build [i0,.bool false,i0,i0] [(0,(1,cI 1))]),oP 35 (.bsl 193 4 [.t 34]),oP 36 (.app 193 4 (.t 33) (.t 35)),mV 3 36])))) (.reg [mV 37 5,mV 38 7,bN 39 .add 37 38,mV 5 39]))))))) (sR [mV 40 3,mV 2 40] .ret)))))
theorem dg233:Dg Tryz.prog 233 Tryz.f233 qsc [(.t 2)]:=⟨Tryz.func233,by kernel_rfl,by kernel_rfl⟩
theorem c233 (t:B) (hl:t.length≤2000000:=by omega):FnR Tryz.prog G 233 [.str t] (.sl 4 ((pieces t).map Pc.row)):=by
 refine mF dg233 Tryz.ntmps233 ?_
 simp only[qsc,go_sem]
 have hh:=qeo t
 with_reducible repeat' (first|refine br ?_ ?_<;>intro h e<;>(try simp only[e,go_sem])<;>clear e|rw[q01 (by omega)]|refine sd ?_<;>try simp only[go_sem]|(first|refine cr (c93 ..) ?_)<;>try simp only[go_sem]|fail)
 have hb:body t=t.take (t.length - held t):=rfl
 have hbl:=q3d t
 refine q0h (λa:List Pc×Nat=>⟨q0e [(0,.str t),(3,.own 1008 a.1.length),(4,.int .i64 (body t).length),(5,.int .i64 (a.2:Int))],q09 [(1008,.arr 193 4 (a.1.map Pc.row))]⟩) (λa=>(body t).length - a.2) (λa=>a.1++pcs ((body t).drop a.2)=pieces t∧a.1.length≤a.2∧a.2≤(body t).length) ([],0)
  (leN [] (by simp only[go_sem];first|done|omega) (by simp only[go_sem];first|done|rfl) (by simp[q0b]) (by simp only[go_sem])) ⟨by rw[q2n];rfl,by simp⟩ ?_
 intro⟨acc,i⟩ ⟨h1,h2,h3⟩
 simp only at h1 h2 h3
 simp only[go_sem]
 by_cases hr:(i:Int)<(body t).length
 ·simp only[eq_true hr,go_sem]
  with_reducible repeat' (first|refine br ?_ ?_<;>intro h e<;>(try simp only[e,go_sem])<;>clear e|rw[q01 (by omega)]|refine sd ?_<;>try simp only[go_sem]|fail)
  have e1:(t.take (body t).length).drop i=(body t).drop i:=by rw[hb];simp
  have hne:(body t).drop i≠[]:=by intro h;have:=congrArg List.length h;simp at this;omega
  simp only[e1]
  refine q0s (c257 _ hne (by simp;omega)) rfl rfl ?_
  simp only[go_sem]
  obtain⟨p1,p2,p3⟩:=q2a hne
  have hpc:=q2t hne
  simp only[List.length_drop] at p2
  have hdrop:((body t).drop i).drop (pc1 ((body t).drop i)).size=(body t).drop (i+(pc1 ((body t).drop i)).size):=by simp
  rw[hdrop] at hpc
  generalize hg:pc1 ((body t).drop i)=q at *
  have hgen:(q.size=(match q0y ((body t).drop i) with|some e=>(name e).length|none=>1))∧q=(match q0y ((body t).drop i) with|some e=>⟨(name e).length,true,e⟩|none=>⟨1,false,.zero⟩):=by
   rw[←hg];unfold pc1;cases q0y ((body t).drop i)<;>exact⟨rfl,rfl⟩
  have hnn:∀e,q0y ((body t).drop i)=some e→1≤(name e).length:=λe _=>by simp[name]
  cases hn:q0y ((body t).drop i) with
  | none =>
    rw[hn] at hgen
    obtain⟨hq1,hq2⟩:=hgen
    simp only at hq1 hq2
    simp only[go_sem]
    with_reducible repeat' (first|refine br ?_ ?_<;>intro h e<;>(try simp only[e,go_sem])<;>clear e|rw[q01 (by omega)]|refine sd ?_<;>try simp only[go_sem]|fail)
    refine⟨(acc++[q],i+1),by simp;omega,⟨?_,by simp;omega,by simp;omega⟩,leN [(1008,1036)] ?_ ?_ (by simp[q0b]) (by simp only[go_sem])⟩
    ·rw[←h1,hpc,hq1,List.append_assoc];rfl
    ·simp only[go_sem];simp
    ·simp only[go_sem];simp[Pc.row,hq2,E.zero]
  | some e =>
    rw[hn] at hgen
    obtain⟨hq1,hq2⟩:=hgen
    have hnl:=hnn e hn
    simp only at hq1 hq2
    simp only[go_sem,Option.getD_some]
    with_reducible repeat' (first|refine br ?_ ?_<;>intro h e<;>(try simp only[e,go_sem])<;>clear e|rw[q01 (by omega)]|refine sd ?_<;>try simp only[go_sem]|fail)
    ·refine⟨(acc++[q],i+(name e).length),by simp;omega,⟨?_,by simp;omega,by simp;omega⟩,leN [(1008,1032)] ?_ ?_ (by simp[q0b]) (by simp only[go_sem])⟩
     ·rw[←h1,hpc,hq1,List.append_assoc];rfl
     ·simp only[go_sem];simp
     ·simp only[go_sem];simp[Pc.row,hq2]
    ·omega
 ·simp only[eq_false hr,go_sem]
  have:i=(body t).length:=by omega
  subst this
  rw[←h1,List.drop_length,qec,List.append_nil]
  exact⟨rfl,rfl⟩
def qwq:IC:=sR [oP 2 (.mv (.c .nils))] (.seq (sR [mV 3 0,oP 4 (.call 134 [.t 3]),oP 5 (.un .not (.t 4))] (cD 5 (sR [oP 2 (.mv (.c .nils))] .ret) .skip)) (sR [mV 6 0,oP 7 (.call 203 [.t 6]),mV 2 7] .ret))
theorem dg167:Dg Tryz.prog 167 Tryz.f167 qwq [(.t 2)]:=⟨Tryz.func167,by kernel_rfl,by kernel_rfl⟩
theorem c167 (t:B) (hl:t.length≤2000000:=by omega):FnR Tryz.prog G 167 [.str t] (.sl 4 ((q19 t).map Pc.row)):=by
 refine mF dg167 Tryz.ntmps167 ?_
 simp only[qwq,go_sem]
 with_reducible repeat' (first|refine br ?_ ?_<;>intro h e<;>(try simp only[e,go_sem])<;>clear e|rw[q01 (by omega)]|refine sd ?_<;>try simp only[go_sem]|(first|refine cr (qpa ..) ?_|refine cr (c203 ..) ?_)<;>try simp only[go_sem]|fail)
 all_goals simp[q19, *]
def qrj:IC:=sR [oP 2 (.mv (.c .nils))] (.seq (sR [mV 3 0,oP 4 (.call 161 [.t 3]),oP 5 (.un .not (.t 4))] (cD 5 (sR [oP 6 (.bsl 193 4 []),mV 2 6] .ret) .skip)) (sR [mV 7 0,oP 8 (.call 233 [.t 7]),mV 2 8] .ret))
theorem dg198:Dg Tryz.prog 198 Tryz.f198 qrj [(.t 2)]:=⟨Tryz.func198,by kernel_rfl,by kernel_rfl⟩
theorem c198 (t:B) (hl:t.length≤2000000:=by omega):FnR Tryz.prog G 198 [.str t] (.sl 4 ((q19 t).map Pc.row)):=by
 refine mF dg198 Tryz.ntmps198 ?_
 simp only[qrj,go_sem]
 with_reducible repeat' (first|refine br ?_ ?_<;>intro h e<;>(try simp only[e,go_sem])<;>clear e|rw[q01 (by omega)]|refine sd ?_<;>try simp only[go_sem]|(first|refine cr (qru ..) ?_|refine cr (c233 ..) ?_)<;>try simp only[go_sem]|fail)
 all_goals simp[q19, *]
theorem q7d {l:List Pc} {i:Nat} (h:i<l.length):q2i (l.take (i+1))=q2i (l.take i)++(if(l.getD i default).named then [(l.getD i default).e] else []):=by
 unfold q2i
 rw[List.take_add_one,zE h]
 simp only[Option.toList_some,List.filter_append,List.map_append,List.getD,zE h,Option.getD_some]
 congr 1
 cases hn:l[i].named<;>simp[hn]
theorem q61 (l:List Pc):(q2i l).length≤l.length:=by
 simp only[q2i,List.length_map]
 exact List.length_filter_le _ _
def qqy:IC:=sR [oP 2 (.mv (.c .nils))] (sR [oP 6 (.bsl 63 2 []),mV 3 6] (.seq (sR [mV 7 0,oP 8 (.call 167 [.t 7]),oP 9 (.len (.t 8)),oP 10 (.mv (.c i0))] (.block 0 (.loop (sR [bN 11 .lss 10 9] (.seq (cD 11 .skip (.exit 0)) (.seq (.block 1 (sR [oP 12 (.iad 4 (.t 8) (.t 10)),lA 13 4 12,oP 5 (.alloc 193 [i0,.bool false,i0,i0]),nP (.sto 4 (.t 5) (.t 13))] (sR [fD 14 1 5,lD 15 1 14] (cD 15 (.reg [mV 16 3,fD 17 2 5,lA 18 2 17,oP 19 (.bsl 63 2 [.t 18]),oP 20 (.app 63 2 (.t 16) (.t 19)),mV 3 20]) .skip)))) (.reg [oP 21 (.bin .add (.t 10) (cI 1)),mV 10 21]))))))) (sR [mV 22 3,oP 23 (.call 168 [.t 22]),mV 2 23] .ret)))
theorem dg124:Dg Tryz.prog 124 Tryz.f124 qqy [(.t 2)]:=⟨Tryz.func124,by kernel_rfl,by kernel_rfl⟩
theorem c124 (t:B) (hl:t.length≤2000000:=by omega):FnR Tryz.prog G 124 [.str t] (.sl 2 ((q18 t).map E.row)):=by
 refine mF dg124 Tryz.ntmps124 ?_
 simp only[qqy,go_sem]
 with_reducible repeat' (first|refine br ?_ ?_<;>intro h e<;>(try simp only[e,go_sem])<;>clear e|rw[q01 (by omega)]|refine sd ?_<;>try simp only[go_sem]|(first|refine cr (c167 ..) ?_)<;>try simp only[go_sem]|fail)
 have hl2:=q21 t
 unfold q18
 generalize hp:q19 t=l at *
 refine q0h (λi:Nat=>⟨q0e [(3,.own 1006 (q2i (l.take i)).length),(8,.sl 4 (l.map Pc.row)),(9,.int .i64 l.length),(10,.int .i64 (i:Int))],q09 [(1006,.arr 63 2 ((q2i (l.take i)).map E.row))]⟩) (λi=>l.length - i) (λi=>i≤l.length) 0 (leQ []) (Nat.zero_le _) ?_
 intro i hi
 simp only[go_sem]
 by_cases h:(i:Int)<l.length
 ·simp only[eq_true h,go_sem]
  refine effG (by omega) ?_
  have hst:=q7d (show i<l.length by omega)
  have hle:=q61 (l.take i)
  simp only[List.length_take] at hle
  generalize hq:l.getD i default=q at hst ⊢
  simp only[go_sem]
  cases hn:q.named<;>simp only[hn,go_sem,Bool.false_eq_true] at hst ⊢
  ·with_reducible repeat' (first|refine br ?_ ?_<;>intro h e<;>(try simp only[e,go_sem])<;>clear e|rw[q01 (by omega)]|refine sd ?_<;>try simp only[go_sem]|fail)
   refine⟨i+1,by omega,by omega,leN [] ?_ ?_ (by simp[q0b]) (by simp only[go_sem])⟩
   ·simp only[go_sem,hst];omega
   ·simp only[go_sem,hst]
  ·with_reducible repeat' (first|refine br ?_ ?_<;>intro h e<;>(try simp only[e,go_sem])<;>clear e|rw[q01 (by omega)]|refine sd ?_<;>try simp only[go_sem]|fail)
   refine⟨i+1,by omega,by omega,leN [(1006,1020)] ?_ ?_ (by simp[q0b]) (by simp only[go_sem])⟩
   ·simp only[go_sem,hst];simp
   ·simp only[go_sem,hst];simp[E.row]
 ·simp only[eq_false h,go_sem]
  have:i=l.length:=by omega
  subst this
  refine q0l (c168 ((q2i l).map E.row)) [1006] true (by simp only[go_sem];simp) (by simp only[List.mem_singleton];rintro c rfl;rfl) rfl (.inl rfl) ?_
  simp only[go_sem]
def qry:IC:=sR [oP 2 (.mv (.c .nils))] (sR [oP 6 (.bsl 63 2 []),mV 3 6] (sR [mV 7 0,oP 8 (.call 198 [.t 7]),mV 4 8] (.seq (sR [oP 5 (.mv (.c i0))] (.block 0 (.loop (.seq (sR [mV 9 5,mV 10 4,oP 11 (.len (.t 10)),bN 12 .lss 9 11] (cD 12 .skip (.exit 0))) (.seq (.block 1 (sR [mV 15 4,mV 16 5,oP 17 (.iad 4 (.t 15) (.t 16)),fD 18 1 17,lD 19 1 18] (cD 19 (.reg [mV 20 3,mV 21 4,mV 22 5,oP 23 (.iad 4 (.t 21) (.t 22)),fD 24 2 23,lA 25 2 24,oP 26 (.bsl 63 2 [.t 25]),oP 27 (.app 63 2 (.t 20) (.t 26)),mV 3 27]) .skip))) (.reg [mV 13 5,oP 14 (.bin .add (.t 13) (cI 1)),mV 5 14])))))) (sR [mV 28 3,mV 2 28] .ret))))
theorem dg162:Dg Tryz.prog 162 Tryz.f162 qry [(.t 2)]:=⟨Tryz.func162,by kernel_rfl,by kernel_rfl⟩
theorem c162 (t:B) (hl:t.length≤2000000:=by omega):FnR Tryz.prog G 162 [.str t] (.sl 2 ((q18 t).map E.row)):=by
 refine mF dg162 Tryz.ntmps162 ?_
 simp only[qry,go_sem]
 with_reducible repeat' (first|refine br ?_ ?_<;>intro h e<;>(try simp only[e,go_sem])<;>clear e|rw[q01 (by omega)]|refine sd ?_<;>try simp only[go_sem]|(first|refine cr (c198 ..) ?_)<;>try simp only[go_sem]|fail)
 have hl2:=q21 t
 unfold q18
 generalize hp:q19 t=l at *
 refine q0h (λi:Nat=>⟨q0e [(3,.own 1006 (q2i (l.take i)).length),(4,.sl 4 (l.map Pc.row)),(5,.int .i64 (i:Int))],q09 [(1006,.arr 63 2 ((q2i (l.take i)).map E.row))]⟩) (λi=>l.length - i) (λi=>i≤l.length) 0 (leQ []) (Nat.zero_le _) ?_
 intro i hi
 simp only[go_sem]
 by_cases h:(i:Int)<l.length
 ·simp only[eq_true h,go_sem]
  refine effG (by omega) ?_
  have hst:=q7d (show i<l.length by omega)
  have hle:=q61 (l.take i)
  simp only[List.length_take] at hle
  generalize hq:l.getD i default=q at hst ⊢
  simp only[go_sem]
  cases hn:q.named<;>simp only[hn,go_sem,Bool.false_eq_true] at hst ⊢
  ·with_reducible repeat' (first|refine br ?_ ?_<;>intro h e<;>(try simp only[e,go_sem])<;>clear e|rw[q01 (by omega)]|refine sd ?_<;>try simp only[go_sem]|fail)
   refine⟨i+1,by omega,by omega,leN [] ?_ ?_ (by simp[q0b]) (by simp only[go_sem])⟩
   ·simp only[go_sem,hst];omega
   ·simp only[go_sem,hst]
  ·with_reducible repeat' (first|refine br ?_ ?_<;>intro h e<;>(try simp only[e,go_sem])<;>clear e|rw[q01 (by omega)]|refine sd ?_<;>try simp only[go_sem]|fail)
   simp only[hq,go_sem]
   with_reducible repeat' (first|refine br ?_ ?_<;>intro h e<;>(try simp only[e,go_sem])<;>clear e|rw[q01 (by omega)]|refine sd ?_<;>try simp only[go_sem]|fail)
   refine⟨i+1,by omega,by omega,leN [(1006,1027)] ?_ ?_ (by simp[q0b]) (by simp only[go_sem])⟩
   ·simp only[go_sem,hst];simp
   ·simp only[go_sem,hst];simp[E.row]
 ·simp only[eq_false h,go_sem]
  have:i=l.length:=by omega
  subst this
  simp only[List.take_length]
  exact⟨trivial,trivial⟩
def qub:IC:=sR [oP 3 (.box 63 (.t 1)),oP 4 (.mv (.c i0))] (.seq (sR [mV 7 0,oP 8 (.len (.t 7)),oP 9 (.mv (.c i0))] (.block 0 (.loop (sR [bN 10 .lss 9 8] (.seq (cD 10 .skip (.exit 0)) (.seq (.block 1 (sR [oP 11 (.iad 3 (.t 7) (.t 9)),lA 12 3 11,oP 6 (.alloc 145 [i0,i0,i0]),nP (.sto 3 (.t 6) (.t 12))] (sR [fD 13 1 6,lA 14 2 13,lA 15 2 3,oP 16 (.eqs false [.i,.i] (.t 14) (.t 15))] (cD 16 (sR [fD 17 0 6,lD 18 1 17,mV 4 18] .ret) .skip)))) (.reg [oP 19 (.bin .add (.t 9) (cI 1)),mV 9 19]))))))) (sR [oP 4 (.mv (.c i0))] .ret))
theorem dg128:Dg Tryz.prog 128 Tryz.f128 qub [(.t 4)]:=⟨Tryz.func128,by kernel_rfl,by kernel_rfl⟩
theorem c128 (m:List Pair) (a p:Int) (hl:m.length≤2000000:=by omega):FnR Tryz.prog G 128 [.sl 3 (m.map Pair.row),.agg [.int .i64 a,.int .i64 p]] (.int .i64 (portOf m ⟨a,p⟩)):=by
 refine mF dg128 Tryz.ntmps128 ?_
 simp only[qub,go_sem]
 refine q0h (λi:Nat=>⟨q0e [(3,.pv 1003 0),(7,.sl 3 (m.map Pair.row)),(8,.int .i64 m.length),(9,.int .i64 (i:Int))],q09 [(1003,.var 63 [.int .i64 a,.int .i64 p])]⟩) (λi=>m.length - i) (λi=>i≤m.length∧portOf m ⟨a,p⟩=portOf (m.drop i) ⟨a,p⟩) 0 (leQ []) ⟨Nat.zero_le _,by simp⟩ ?_
 intro i ⟨hi,ha⟩
 simp only[go_sem]
 by_cases h:(i:Int)<m.length
 ·simp only[eq_true h,go_sem]
  refine effG (by omega) ?_
  have hil:i<m.length:=by omega
  rw[List.drop_eq_getElem_cons hil,q3b] at ha
  have hg:m.getD i default=m[i]:=by simp[List.getD,hil]
  simp only[hg,go_sem,E.ext_iff']
  with_reducible repeat' (first|refine br ?_ ?_<;>intro h e<;>(try simp only[e,go_sem])<;>clear e|rw[q01 (by omega)]|refine sd ?_<;>try simp only[go_sem]|fail)
  ·rw[ha,if_pos h]
  ·refine⟨i+1,by omega,⟨by omega,by rw[ha,if_neg h]⟩,(leQ [])⟩
 ·simp only[eq_false h,go_sem]
  have:i=m.length:=by omega
  subst this
  rw[ha,List.drop_length,q57]
def qq2:IC:=sR [oP 4 (.alloc 63 [i0,i0]),oP 5 (.mv cF)] (.seq (sR [mV 8 0,oP 9 (.len (.t 8)),oP 10 (.mv (.c i0))] (.block 0 (.loop (sR [bN 11 .lss 10 9] (.seq (cD 11 .skip (.exit 0)) (.seq (.block 1 (sR [oP 12 (.iad 3 (.t 8) (.t 10)),lA 13 3 12,oP 7 (.alloc 145 [i0,i0,i0]),nP (.sto 3 (.t 7) (.t 13))] (sR [fD 14 0 7,lD 15 1 14,mV 16 1,bN 17 .eql 15 16] (cD 17 (sR [fD 18 1 7,lA 19 2 18,nP (.sto 2 (.t 4) (.t 19)),oP 5 (.mv cT)] .ret) .skip)))) (.reg [oP 20 (.bin .add (.t 10) (cI 1)),mV 10 20]))))))) (sR [oP 21 (.build [i0,i0] []),nP (.sto 2 (.t 4) (.t 21)),oP 5 (.mv cF)] .ret))
theorem dg208:Dg Tryz.prog 208 Tryz.f208 qq2 [(.cell 4 2 true),(.t 5)]:=⟨Tryz.func208,by kernel_rfl,by kernel_rfl⟩
theorem c208 (m:List Pair) (n:Int) (hl:m.length≤2000000:=by omega):FnR Tryz.prog G 208 [.sl 3 (m.map Pair.row),.int .i64 n] (rdV (q0p m n)):=by
 refine mF dg208 Tryz.ntmps208 ?_
 simp only[qq2,go_sem]
 refine q0h (λi:Nat=>⟨q0e [(1,.int .i64 n),(4,.pv 1004 0),(8,.sl 3 (m.map Pair.row)),(9,.int .i64 m.length),(10,.int .i64 (i:Int))],q09 [(1004,.var 63 [.int .i64 0,.int .i64 0])]⟩) (λi=>m.length - i) (λi=>i≤m.length∧q0p m n=q0p (m.drop i) n) 0 (leQ []) ⟨Nat.zero_le _,by simp⟩ ?_
 intro i ⟨hi,ha⟩
 simp only[go_sem]
 by_cases h:(i:Int)<m.length
 ·simp only[eq_true h,go_sem]
  refine effG (by omega) ?_
  have hil:i<m.length:=by omega
  rw[List.drop_eq_getElem_cons hil,q8o] at ha
  have hg:m.getD i default=m[i]:=by simp[List.getD,hil]
  simp only[hg,go_sem]
  with_reducible repeat' (first|refine br ?_ ?_<;>intro h e<;>(try simp only[e,go_sem])<;>clear e|rw[q01 (by omega)]|refine sd ?_<;>try simp only[go_sem]|fail)
  ·rw[ha,if_pos h];exact⟨⟨rfl,rfl⟩,rfl⟩
  ·refine⟨i+1,by omega,⟨by omega,by rw[ha,if_neg h]⟩,(leQ [])⟩
 ·simp only[eq_false h,go_sem]
  have:i=m.length:=by omega
  subst this
  rw[ha,List.drop_length]
  exact⟨⟨rfl,rfl⟩,rfl⟩
def qmt:IC:=sR [oP 2 (.mv (.c .nils))] (sR [mV 3 0,oP 4 (.call 174 [.t 3]),oP 5 (.call 173 [.t 4]),mV 2 5] .ret)
theorem quf:Dg Tryz.prog 135 Tryz.f135 qmt [(.t 2)]:=⟨Tryz.func135,by kernel_rfl,by kernel_rfl⟩
theorem qpu (rows:List (List V)) (hr:rows.length≤2000000:=by omega):FnP Tryz.prog G 135 0 [] [.sl 3 rows] (λr o=>r=.own 0 rows.length∧o=[.arr 145 3 rows]):=by
 refine mP quf Tryz.ntmps135 ⟨_,_,rfl,rfl⟩ ?_
 simp only[qmt,go_sem]
 refine q0t (c174 rows hr) [] 4 1 (by simp only[go_sem];first|done|simp) (by simp) (by rintro _ _ ⟨rfl,rfl⟩;simp) (by intro i hi;obtain rfl:i=0:=(by omega);simp only[go_sem]) ?_
 rintro _ _ ⟨rfl,rfl⟩
 simp only[go_sem]
 refine q1t (o173 rows rows.length rfl) [100400] [] 5 1 (by simp only[go_sem];first|done|simp) (by simp only[go_sem];first|done|simp) (by simp) (by simp) (by rintro _ _ ⟨rfl,rfl⟩;simp) (by intro i hi;obtain rfl:i=0:=(by omega);simp only[go_sem]) ?_
 rintro _ _ ⟨rfl,rfl⟩
 simp only[go_sem]
 exact q0v (.own 0 rows.length) [.arr 145 3 rows] [(0,100500)] (by simp only[go_sem];first|done|simp) ⟨rfl,rfl⟩ (by simp only[go_sem]) (by simp[q0r]) (by simp only[go_sem])
def qq7:IC:=sR [oP 3 (.box 63 (.t 1)),oP 4 (.mv (.c .nils)),oP 5 (.mv (.c i0)),oP 6 (.mv cF)] (sR [mV 10 0,oP 11 (.call 135 [.t 10]),mV 7 11] (.seq (sR [mV 12 0,lA 13 2 3,oP 14 (.call 128 [.t 12,.t 13]),mV 8 14] (sR [mV 15 8,oP 16 (.bin .neq (.t 15) (.c i0))] (cD 16 (sR [mV 17 7,mV 18 8,mV 4 17,mV 5 18,oP 6 (.mv cT)] .ret) .skip))) (sR [mV 19 0,oP 20 (.len (.t 19)),oP 21 (.bin .add (cI 10) (.t 20)),mV 9 21] (.seq (sR [mV 22 9,oP 23 (.bin .gtr (.t 22) (cI 17))] (cD 23 (sR [mV 24 7,mV 4 24,oP 5 (.mv (.c i0)),oP 6 (.mv cF)] .ret) .skip)) (sR [mV 25 7,mV 26 9,lA 27 2 3,oP 28 (.build [i0,i0,i0] [(0,(1,.t 26)),(1,(2,.t 27))]),oP 29 (.bsl 145 3 [.t 28]),oP 30 (.app 145 3 (.t 25) (.t 29)),oP 31 (.call 173 [.t 30]),mV 32 9,mV 4 31,mV 5 32,oP 6 (.mv cT)] .ret)))))
theorem dg205:Dg Tryz.prog 205 Tryz.f205 qq7 [(.t 4),(.t 5),(.t 6)]:=⟨Tryz.func205,by kernel_rfl,by kernel_rfl⟩
theorem c205 (m:List Pair) (a p:Int) (hp:PortsOk m) (hl:m.length≤1000000):FnR Tryz.prog G 205 [.sl 3 (m.map Pair.row),.agg [.int .i64 a,.int .i64 p]]
 (.tup [.sl 3 ((mOut m ⟨a,p⟩).1.map Pair.row),.int .i64 (mOut m ⟨a,p⟩).2.1,.bool (mOut m ⟨a,p⟩).2.2]):=by
 refine mF dg205 Tryz.ntmps205 ?_
 have hp0:∀p∈m,p.port≠0:=λp h=>(hp p h).1
 have e1:=q51 (e:=⟨a,p⟩) hp0
 have e2:=q8z (e:=⟨a,p⟩) hp0
 simp only[qq7,go_sem]
 refine q0t (qpu (m.map Pair.row) (by simp;omega)) [] 11 1 (by simp only[go_sem];first|done|simp) (by simp) (by rintro _ _ ⟨rfl,rfl⟩;simp) (by intro i hi;obtain rfl:i=0:=(by omega);simp only[go_sem]) ?_
 rintro _ _ ⟨rfl,rfl⟩
 simp only[go_sem]
 with_reducible repeat' (first|refine br ?_ ?_<;>intro h e<;>(try simp only[e,go_sem])<;>clear e|rw[q01 (by omega)]|refine sd ?_<;>try simp only[go_sem]|(first|refine cr (c128 ..) ?_)<;>try simp only[go_sem]|fail)
 all_goals(have hw:IntKind.i64.wrap (10+(m.length:Int))=10+m.length:=q01 (by omega))
 all_goals(try simp only[hw] at h)
 ·rename_i h0
  rw[e2 h0,if_pos (by omega)];exact⟨⟨rfl,rfl⟩,rfl,rfl⟩
 ·rename_i h0
  rw[e2 h0,if_neg (by omega)]
  refine q0l (c173 ((m++([⟨10+(m.length:Int),⟨a,p⟩⟩]:List Pair)).map Pair.row)) [1030] true (by simp only[go_sem];first|done|simp[E.row,Pc.row,Pair.row,Part.row,Flw.row,Pk.row,Conv.row]) (by simp only[List.mem_singleton];rintro c rfl;rfl) rfl (.inl rfl) ?_
  simp only[go_sem]
 ·rw[e1 h];exact⟨⟨rfl,rfl⟩,rfl,rfl⟩
def qui:IC:=sR [oP 5 (.box 193 (.t 1)),oP 8 (.mv (.c .nils)),oP 9 (.mv (.c s0))] (.seq (.block 0 (sR [fD 16 1 5,lD 17 1 16,mV 18 17,gT 19 18 (.mv (.t 3)),pF 20 18 19,mV 21 20,gT 22 21 (.fad 2 (.t 5)),gT 23 21 (.ld 2 true (.t 22)),gT 24 21 (.call 120 [.t 23]),pF 25 21 24,mV 15 25] (cD 15 (sR [mV 27 0,fD 28 2 5,lA 29 2 28,oP 30 (.call 205 [.t 27,.t 29]),mV 26 30,eX 31 26 0,eX 32 26 1,eX 33 26 2,mV 10 31,mV 11 32,mV 12 33] (sR [mV 34 12] (cD 34 (sR [mV 35 10,mV 36 11,oP 37 (.build [i0,i0] [(0,(1,cI 9)),(1,(1,.t 36))]),oP 38 (.call 264 [.t 37]),mV 8 35,mV 9 38] .ret) .skip))) (sR [fD 40 1 5,lD 41 1 40,mV 42 41,gT 43 42 (.mv (.t 3)),gT 44 42 (.un .not (.t 43)),pF 45 42 44,mV 46 45,gT 47 46 (.fad 2 (.t 5)),gT 48 46 (.ld 2 true (.t 47)),gT 49 46 (.call 125 [.t 48]),pF 50 46 49,mV 39 50] (cD 39 (sR [mV 52 0,fD 53 2 5,fD 54 1 53,lD 55 1 54,oP 56 (.call 208 [.t 52,.t 55]),mV 51 56,eX 57 51 0,eX 58 51 1,oP 13 (.alloc 63 [i0,i0]),nP (.sto 2 (.t 13) (.t 57)),mV 14 58] (sR [mV 59 14] (cD 59 (sR [mV 60 0,lA 61 2 13,oP 62 (.call 264 [.t 61]),mV 8 60,mV 9 62] .ret) .skip))) .skip))))) (sR [mV 63 0,mV 64 2,mV 8 63,mV 9 64] .ret))
theorem dg269:Dg Tryz.prog 269 Tryz.f269 qui [(.t 8),(.t 9)]:=⟨Tryz.func269,by kernel_rfl,by kernel_rfl⟩
theorem c269 (m:List Pair) (n:Nat) (b:Bool) (a p:Int) (s:B) (out:Bool) (hp:PortsOk m) (hl:m.length≤1000000):FnR Tryz.prog G 269 [.sl 3 (m.map Pair.row),.agg [.int .i64 n,.bool b,.int .i64 a,.int .i64 p],.str s,.bool out]
 (.tup [.sl 3 ((turn m ⟨n,b,⟨a,p⟩⟩ s out).1.map Pair.row),.str (turn m ⟨n,b,⟨a,p⟩⟩ s out).2]):=by
 refine mF dg269 Tryz.ntmps269 ?_
 simp only[qui,go_sem]
 cases b<;>cases out<;>simp only[go_sem]
 all_goals
  repeat' (first
   | (refine q0s (qwj ..) rfl rfl ?_;simp only[go_sem])
   | (refine q0s (qg8 ..) rfl rfl ?_;simp only[go_sem])
   | (with_reducible refine cB (λh=>?_) (λh=>?_)<;>simp only[h,go_sem])
   | (refine q0s (c205 m a p hp hl) rfl rfl ?_;simp only[go_sem])
   | (refine q0s (c208 m p) rfl rfl ?_;simp only[go_sem])
   | (refine q0s (c264 ..) rfl rfl ?_;simp only[go_sem]))
 ·simp[turn,q1x]
 ·simp[turn,q0o]
 ·rename_i h0
  obtain⟨e,he⟩:=Option.isSome_iff_exists.1 h
  simp[turn,q1x,h0,he]
 ·rename_i h0
  have:q0p m p=none:=by simpa using h
  simp[turn,q1x,h0,this]
 ·simp[turn,q1x,h]
 ·rename_i h0
  rcases hmo:mOut m ⟨a,p⟩ with⟨x,port,ok⟩
  rw[hmo] at h
  simp only at h
  subst h
  simp[turn,q0o,h0,hmo]
 ·rename_i h0
  rcases hmo:mOut m ⟨a,p⟩ with⟨x,port,ok⟩
  rw[hmo] at h
  simp only at h
  subst h
  simp[turn,q0o,h0,hmo]
 ·simp[turn,q0o,h]
def qs9:IC:=sR [oP 4 (.alloc 63 [i0,i0]),oP 5 (.mv cF)] (sR [mV 7 1,oP 8 (.bin .sub (.t 7) (cI 10)),mV 6 8] (.seq (sR [mV 9 6,mV 10 0,oP 11 (.len (.t 10)),oP 12 (.bin .sub (.t 11) (cI 1)),oP 13 (.call 114 [.t 9,.c i0,.t 12]),oP 14 (.un .not (.t 13))] (cD 14 (sR [oP 15 (.build [i0,i0] []),nP (.sto 2 (.t 4) (.t 15)),oP 5 (.mv cF)] .ret) .skip)) (sR [mV 16 0,mV 17 6,oP 18 (.iad 3 (.t 16) (.t 17)),fD 19 1 18,lA 20 2 19,nP (.sto 2 (.t 4) (.t 20)),oP 5 (.mv cT)] .ret)))
theorem dg240:Dg Tryz.prog 240 Tryz.f240 qs9 [(.cell 4 2 true),(.t 5)]:=⟨Tryz.func240,by kernel_rfl,by kernel_rfl⟩
theorem c240 (m:List Pair) (n:Int) (hm:mapOk m=true) (hn : -1000000≤n∧n≤1000000):FnR Tryz.prog G 240 [.sl 3 (m.map Pair.row),.int .i64 n] (rdV (q0p m n)):=by
 refine mF dg240 Tryz.ntmps240 ?_
 obtain⟨hp,hl⟩:=q0c hm
 simp only[qs9,go_sem]
 have hat:=qa4 hm n
 with_reducible repeat' (first|refine br ?_ ?_<;>intro h e<;>(try simp only[e,go_sem])<;>clear e|rw[q01 (by omega)]|refine sd ?_<;>try simp only[go_sem]|(first|refine cr (qda ..) ?_)<;>try simp only[go_sem]|fail)
 ·rw[M.within_iff] at h
  rw[dif_pos (by omega)] at hat
  with_reducible repeat' (first|refine br ?_ ?_<;>intro h e<;>(try simp only[e,go_sem])<;>clear e|rw[q01 (by omega)]|refine sd ?_<;>try simp only[go_sem]|fail)
  have hg:m.getD (n - 10).toNat default=m[(n - 10).toNat]'(by omega):=by simp[List.getD,show(n - 10).toNat<m.length by omega]
  simp only[hg,hat,go_sem]
  exact⟨⟨rfl,rfl⟩,rfl⟩
 ·have:¬(0≤n - 10∧n - 10<m.length):=λhc=>by
   have:q0m (n - 10) 0 (m.length - 1)=true:=by rw[M.within_iff];omega
   rw[h] at this;cases this
  rw[dif_neg this] at hat
  rw[hat]
  exact⟨⟨rfl,rfl⟩,rfl⟩
def qsu:IC:=sR [oP 4 (.box 193 (.t 1)),oP 6 (.mv (.c s0))] (.seq (sR [fD 9 1 4,lD 10 1 9,oP 11 (.un .not (.t 10)),mV 12 11,gF 13 12 (.fad 2 (.t 4)),gF 14 12 (.ld 2 true (.t 13)),gF 15 12 (.call 119 [.t 14]),gF 16 12 (.un .not (.t 15)),pT 17 12 16] (cD 17 (sR [mV 18 2,mV 6 18] .ret) .skip)) (sR [mV 20 0,fD 21 2 4,fD 22 1 21,lD 23 1 22,oP 24 (.call 240 [.t 20,.t 23]),mV 19 24,eX 25 19 0,eX 26 19 1,oP 7 (.alloc 63 [i0,i0]),nP (.sto 2 (.t 7) (.t 25)),mV 8 26] (.seq (sR [mV 27 8,oP 28 (.un .not (.t 27))] (cD 28 (sR [mV 29 2,mV 6 29] .ret) .skip)) (sR [lA 30 2 7,oP 31 (.call 92 [.t 30]),oP 32 (.bin .add (.c (.str [64])) (.t 31)),oP 33 (.bin .add (.t 32) (.c (.str [59]))),mV 6 33] .ret))))
theorem dg260:Dg Tryz.prog 260 Tryz.f260 qsu [(.t 6)]:=⟨Tryz.func260,by kernel_rfl,by kernel_rfl⟩
theorem c260 (m:List Pair) (n:Nat) (b:Bool) (a p:Int) (s:B) (hm:mapOk m=true):FnR Tryz.prog G 260 [.sl 3 (m.map Pair.row),.agg [.int .i64 n,.bool b,.int .i64 a,.int .i64 p],.str s] (.str (q1x m ⟨n,b,⟨a,p⟩⟩ s)):=by
 refine mF dg260 Tryz.ntmps260 ?_
 simp only[qsu,go_sem]
 cases b<;>simp only[go_sem]
 ·simp[q1x]
 refine q0s (qga ..) rfl rfl ?_
 simp only[go_sem]
 cases hd:E.door ⟨a,p⟩<;>simp only[go_sem]
 ·simp[q1x,hd]
 have hd':=hd
 rw[E.door_iff] at hd
 simp only at hd
 refine q0s (c240 m p hm (by omega)) rfl rfl ?_
 simp only[go_sem]
 cases hi:q0p m p with
 | none=>simp only[go_sem,Option.isSome_none];simp[q1x,hd',hi]
 | some e =>
   have:=q8u (e:=e)
   simp only[go_sem,Option.isSome_some,Option.getD_some]
   refine q0s (c92 e.a e.p) rfl rfl ?_
   simp only[go_sem]
   repeat' (with_reducible refine pureG (by simp;omega) ?_;try simp only[go_sem])
   simp[q1x,hd',hi,name]
def outP (m:List Pair) (e:E) (r:V) (o:List Hs):Prop :=
 ((mOut m e).1=m∧r=.tup [.own 0 m.length,.int .i64 (mOut m e).2.1,.bool (mOut m e).2.2]∧o=[.arr 145 3 (m.map Pair.row)]) ∨
 (r=.tup [.own 1 (mOut m e).1.length,.int .i64 (mOut m e).2.1,.bool (mOut m e).2.2]∧o=[.dead,.arr 145 3 ((mOut m e).1.map Pair.row)]∧(mOut m e).2.2=true∧(mOut m e).1≠m)
def qv0:IC:=sR [oP 3 (.box 63 (.t 1)),oP 4 (.mv (.c .nils)),oP 5 (.mv (.c i0)),oP 6 (.mv cF)] (.seq (sR [oP 7 (.mv (.c i0))] (.block 0 (.loop (.seq (sR [mV 9 7,mV 10 0,oP 11 (.len (.t 10)),bN 12 .lss 9 11] (cD 12 .skip (.exit 0))) (.seq (.block 1 (.seq (.drw [0,0,3,7,15,0,63] [(0,mV 15 0),(1,mV 16 7),(2,oP 17 (.iad 3 (.t 15) (.t 16))),(3,fD 18 1 17),(4,lA 19 2 18),(5,lA 20 2 3),(6,oP 21 (.eqs false [.i,.i] (.t 19) (.t 20)))]) (cD 21 (.seq (.drw [0,0,0,6,14,30,1,127,255] [(0,mV 22 0),(1,mV 23 0),(2,mV 24 7),(3,oP 25 (.iad 3 (.t 23) (.t 24))),(4,fD 26 0 25),(5,lD 27 1 26),(6,mV 4 22),(7,mV 5 27),(8,oP 6 (.mv cT))]) .ret) .skip))) (.reg [mV 13 7,oP 14 (.bin .add (.t 13) (cI 1)),mV 7 14])))))) (.seq (sR [mV 28 0,oP 29 (.len (.t 28)),oP 30 (.bin .gtr (.t 29) (cI 7))] (cD 30 (sR [mV 31 0,mV 4 31,oP 5 (.mv (.c i0)),oP 6 (.mv cF)] .ret) .skip)) (sR [mV 32 0,oP 33 (.len (.t 32)),oP 34 (.bin .add (cI 10) (.t 33)),mV 8 34] (sR [mV 35 0,mV 36 8,lA 37 2 3,oP 38 (.build [i0,i0,i0] [(0,(1,.t 36)),(1,(2,.t 37))]),oP 39 (.bsl 145 3 [.t 38]),oP 40 (.app 145 3 (.t 35) (.t 39)),mV 41 8,mV 4 40,mV 5 41,oP 6 (.mv cT)] .ret))))
theorem dg235:Dg Tryz.prog 235 Tryz.f235 qv0 [(.t 4),(.t 5),(.t 6)]:=⟨Tryz.func235,by kernel_rfl,by kernel_rfl⟩
theorem c235 (m:List Pair) (a p:Int) (hp:PortsOk m) (hl:m.length≤1000000):FnP Tryz.prog G 235 1 [.arr 145 3 (m.map Pair.row)] [.own 0 m.length,.agg [.int .i64 a,.int .i64 p]] (outP m ⟨a,p⟩):=by
 refine mP dg235 Tryz.ntmps235 ?_ ?_
 ·by_cases h:(mOut m ⟨a,p⟩).1=m
  ·exact⟨_,_,.inl ⟨h,rfl,rfl⟩⟩
  ·refine⟨_,_,.inr ⟨rfl,rfl, ?_,h⟩⟩
   cases hb:(mOut m ⟨a,p⟩).2.2 with
   | true=>rfl
   | false =>
     exfalso
     apply h
     revert hb
     unfold mOut
     split
     ·simp
     ·split<;>simp
 simp only[qv0,go_sem]
 refine q0h (λi:Nat=>⟨q0e [(0,.own 0 m.length),(3,.pv 1003 0),(7,.int .i64 (i:Int))],q09 [(0,.arr 145 3 (m.map Pair.row)),(1003,.var 63 [.int .i64 a,.int .i64 p])]⟩) (λi=>m.length - i) (λi=>i≤m.length∧portOf m ⟨a,p⟩=portOf (m.drop i) ⟨a,p⟩) 0 (leQ []) ⟨Nat.zero_le _,by simp⟩ ?_
 intro i ⟨hi,ha⟩
 simp only[go_sem]
 by_cases h:(i:Int)<m.length
 ·have hil:i<m.length:=by omega
  have hg:m.getD i default=m[i]:=by simp[List.getD,hil]
  rw[List.drop_eq_getElem_cons hil,q3b] at ha
  simp only[eq_true h,go_sem]
  with_reducible repeat' (first|refine br ?_ ?_<;>intro h e<;>(try simp only[e,go_sem,q03 hil,hg,E.ext_iff'])<;>clear e|rw[q01 (by omega)]|refine sd ?_<;>try simp only[go_sem,q03 hil,hg,E.ext_iff']|fail)
  ·rw[if_pos h] at ha
   have hne:portOf m ⟨a,p⟩≠0:=by rw[ha];exact(hp m[i] (List.getElem_mem hil)).1
   have hf:=q51 (λp h=>(hp p h).1) hne
   refine q0v (.tup [.own 0 m.length,.int .i64 (mOut m ⟨a,p⟩).2.1,.bool (mOut m ⟨a,p⟩).2.2]) [.arr 145 3 (m.map Pair.row)] [] ?_ (.inl ⟨by rw[hf],rfl,rfl⟩) (by simp only[go_sem]) (by simp[q0r]) (by simp only[go_sem];first|done|simp)
   simp only[go_sem,hf,ha]
   try simp
  ·refine⟨i+1,by omega,⟨by omega,by rw[ha,if_neg h]⟩,(leQ [])⟩
 ·simp only[eq_false h,go_sem]
  have:i=m.length:=by omega
  subst this
  rw[List.drop_length,q57] at ha
  have hf:=q8z (λp h=>(hp p h).1) ha
  with_reducible repeat' (first|refine br ?_ ?_<;>intro h e<;>(try simp only[e,go_sem])<;>clear e|rw[q01 (by omega)]|refine sd ?_<;>try simp only[go_sem]|fail)
  ·rw[if_pos (by omega)] at hf
   refine q0v (.tup [.own 0 m.length,.int .i64 (mOut m ⟨a,p⟩).2.1,.bool (mOut m ⟨a,p⟩).2.2]) [.arr 145 3 (m.map Pair.row)] [] ?_ (.inl ⟨by rw[hf],rfl,rfl⟩) (by simp only[go_sem]) (by simp[q0r]) (by simp only[go_sem];first|done|simp)
   simp only[go_sem,hf]
   try simp
  ·rw[if_neg (by omega)] at hf
   refine q0v (.tup [.own 1 (mOut m ⟨a,p⟩).1.length,.int .i64 (mOut m ⟨a,p⟩).2.1,.bool (mOut m ⟨a,p⟩).2.2]) [.dead,.arr 145 3 ((mOut m ⟨a,p⟩).1.map Pair.row)] [(1,1040)] ?_ (.inr ⟨rfl,rfl,by rw[hf],by rw[hf];simp⟩) ?_ (by simp[q0r,q0b]) (by simp only[go_sem];first|done|simp)
   ·simp only[go_sem,hf];simp
   ·simp only[go_sem,hf];simp[Pair.row]
def qph:IC:=sR [oP 4 (.box 193 (.t 1)),oP 6 (.mv (.c .nils)),oP 7 (.mv (.c s0))] (.seq (sR [fD 11 1 4,lD 12 1 11,oP 13 (.un .not (.t 12)),mV 14 13,gF 15 14 (.fad 2 (.t 4)),gF 16 14 (.ld 2 true (.t 15)),gF 17 14 (.call 109 [.t 16]),gF 18 14 (.un .not (.t 17)),pT 19 14 18] (cD 19 (sR [mV 20 0,mV 21 2,mV 6 20,mV 7 21] .ret) .skip)) (sR [mV 23 0,fD 24 2 4,lA 25 2 24,oP 26 (.call 235 [.t 23,.t 25]),mV 22 26,eX 27 22 0,eX 28 22 1,eX 29 22 2,mV 8 27,mV 9 28,mV 10 29] (.seq (sR [mV 30 10,oP 31 (.un .not (.t 30))] (cD 31 (sR [mV 32 0,mV 33 2,mV 6 32,mV 7 33] .ret) .skip)) (sR [mV 34 8,mV 35 9,oP 36 (.build [i0,i0] [(0,(1,cI 9)),(1,(1,.t 35))]),oP 37 (.call 92 [.t 36]),oP 38 (.bin .add (.c (.str [64])) (.t 37)),oP 39 (.bin .add (.t 38) (.c (.str [59]))),mV 6 34,mV 7 39] .ret))))
theorem dg259:Dg Tryz.prog 259 Tryz.f259 qph [(.t 6),(.t 7)]:=⟨Tryz.func259,by kernel_rfl,by kernel_rfl⟩
theorem c259 (m:List Pair) (n:Nat) (b:Bool) (a p:Int) (s:B) (hp:PortsOk m) (hl:m.length≤1000000):FnP Tryz.prog G 259 0 [.arr 145 3 (m.map Pair.row)] [.own 0 m.length,.agg [.int .i64 n,.bool b,.int .i64 a,.int .i64 p],.str s]
 (λr o=>r=.tup [.own 0 (q0o m ⟨n,b,⟨a,p⟩⟩ s).1.length,.str (q0o m ⟨n,b,⟨a,p⟩⟩ s).2]∧o=[.arr 145 3 ((q0o m ⟨n,b,⟨a,p⟩⟩ s).1.map Pair.row)]):=by
 refine mP dg259 Tryz.ntmps259 ⟨_,_,rfl,rfl⟩ ?_
 simp only[qph,go_sem]
 have keep:∀l mm,q0o m ⟨n,b,⟨a,p⟩⟩ s=(m,s)→q0e l 6=.own 0 m.length→q0e l 7=.str s→q09 mm 0=.arr 145 3 (m.map Pair.row) →
  q50 [.t 6,.t 7] 0 (λr o=>r=.tup [.own 0 (q0o m ⟨n,b,⟨a,p⟩⟩ s).1.length,.str (q0o m ⟨n,b,⟨a,p⟩⟩ s).2]∧o=[.arr 145 3 ((q0o m ⟨n,b,⟨a,p⟩⟩ s).1.map Pair.row)]) .ret ⟨q0e l,q09 mm⟩:=λl mm h1 h2 h3 h4=>by
  refine q0v _ _ [] ?_ ⟨rfl,rfl⟩ ?_ (by simp[q0r]) (by simp only[go_sem])
  ·simp only[go_sem,h1,h2,h3];try simp
  ·simp only[go_sem,h1,h4]
 cases b<;>simp only[go_sem]
 ·exact keep _ _ (by simp[q0o]) (by simp only[go_sem]) (by simp only[go_sem]) (by simp only[go_sem])
 refine q0s (qvm ..) rfl rfl ?_
 simp only[go_sem]
 cases hi:E.inside ⟨a,p⟩<;>simp only[go_sem]
 ·exact keep _ _ (by simp[q0o,hi]) (by simp only[go_sem]) (by simp only[go_sem]) (by simp only[go_sem])
 refine q0f (c235 m a p hp hl) [0] [] true 26 2 (by simp only[go_sem];first|done|simp) (by simp only[go_sem];first|done|simp) (by simp) (by simp) (by simp) ?_ ?_ ?_
 ·rintro res out (⟨_,rfl,rfl⟩|⟨rfl,rfl,_⟩)
  ·exact⟨by simp,by simp,.inl rfl,λi hi=>by obtain rfl:i=0:=(by omega);simp[chH,q07]⟩
  ·exact⟨by simp,by simp,.inl rfl,λi hi=>by obtain rfl:i=0:=(by omega);simp[chH,q07]⟩
 ·intro i hi
  have:i=0∨i=1:=by omega
  rcases this with rfl|rfl<;>simp only[go_sem]
 ·rintro res out (⟨h1,rfl,rfl⟩|⟨rfl,rfl,h3,_⟩)
  ·have hpo:∀c,(mOut m ⟨a,p⟩).2.2=c→q0o m ⟨n,true,⟨a,p⟩⟩ s=bif c then((mOut m ⟨a,p⟩).1,name ⟨9,(mOut m ⟨a,p⟩).2.1⟩) else(m,s):=λc hc=>by
    subst hc
    rcases hmo:mOut m ⟨a,p⟩ with⟨x,port,ok⟩
    cases ok<;>simp[q0o,hi,hmo]
   simp only[go_sem]
   cases hok:(mOut m ⟨a,p⟩).2.2<;>simp only[go_sem]
   ·exact keep _ _ (by rw[hpo _ hok];rfl) (by simp only[go_sem]) (by simp only[go_sem]) (by simp only[go_sem])
   ·have hpo:=hpo _ hok
    simp only[cond_true,h1] at hpo
    have hlt:=q8u (e:=⟨9,(mOut m ⟨a,p⟩).2.1⟩)
    with_reducible repeat' (first|refine br ?_ ?_<;>intro h e<;>(try simp only[e,go_sem])<;>clear e|rw[q01 (by omega)]|refine sd ?_<;>try simp only[go_sem]|(first|refine cr (c92 ..) ?_)<;>try simp only[go_sem]|fail)
    refine q0v _ _ [] ?_ ⟨rfl,rfl⟩ ?_ (by simp[q0r]) (by simp only[go_sem])
    ·simp only[go_sem,hpo];simp[name]
    ·simp only[go_sem,hpo]
  ·have hpo:q0o m ⟨n,true,⟨a,p⟩⟩ s=((mOut m ⟨a,p⟩).1,name ⟨9,(mOut m ⟨a,p⟩).2.1⟩):=by
    rcases hmo:mOut m ⟨a,p⟩ with⟨x,port,ok⟩
    rw[hmo] at h3
    simp only at h3
    subst h3
    simp[q0o,hi,hmo]
   simp only[go_sem,h3]
   have hlt:=q8u (e:=⟨9,(mOut m ⟨a,p⟩).2.1⟩)
   with_reducible repeat' (first|refine br ?_ ?_<;>intro h e<;>(try simp only[e,go_sem])<;>clear e|rw[q01 (by omega)]|refine sd ?_<;>try simp only[go_sem]|(first|refine cr (c92 ..) ?_)<;>try simp only[go_sem]|fail)
   refine q0v _ _ [(0,102601)] ?_ ⟨rfl,rfl⟩ ?_ (by simp[q0r]) (by simp only[go_sem])
   ·simp only[go_sem,hpo];simp[name]
   ·simp only[go_sem,hpo]
def qqc:IC:=sR [oP 8 (.mv (.c .nils)),oP 9 (.mv (.c .nils))] (sR [mV 15 1,oP 16 (.len (.t 15)),oP 17 (.mks 9 1 (.t 16)),mV 10 17] (.seq (sR [mV 18 1,oP 19 (.len (.t 18)),oP 20 (.mv (.c i0))] (.block 0 (.loop (sR [bN 21 .lss 20 19] (.seq (cD 21 .skip (.exit 0)) (.seq (.block 1 (sR [oP 22 (.iad 4 (.t 18) (.t 20)),lA 23 4 22,oP 12 (.alloc 193 [i0,.bool false,i0,i0]),nP (.sto 4 (.t 12) (.t 23))] (.seq (.drw [0,0,0,0,8,28,0,127,255,511,511,1023,4095] [(0,mV 25 0),(1,lA 26 4 12),(2,mV 27 2),(3,fD 28 0 12),(4,lD 29 1 28),(5,oP 30 (.sls (.t 27) none (some (.t 29)))),(6,mV 31 3),(7,oP 32 (.call 269 [.t 25,.t 26,.t 30,.t 31])),(8,mV 24 32),(9,eX 33 24 0),(10,eX 34 24 1),(11,mV 13 33),(12,mV 14 34)]) (sR [mV 35 13,mV 0 35] (sR [mV 36 10,mV 37 14,oP 38 (.call 150 [.t 37]),oP 39 (.bsl 9 1 [.t 38]),oP 40 (.app 9 1 (.t 36) (.t 39)),mV 10 40] (.reg [mV 41 2,fD 42 0 12,lD 43 1 42,oP 44 (.sls (.t 41) (some (.t 43)) none),mV 2 44])))))) (.reg [oP 45 (.bin .add (.t 20) (cI 1)),mV 20 45]))))))) (sR [mV 46 0,mV 47 10,mV 8 46,mV 9 47] .ret)))
theorem dg265:Dg Tryz.prog 265 Tryz.f265 qqc [(.t 8),(.t 9)]:=⟨Tryz.func265,by kernel_rfl,by kernel_rfl⟩
theorem c265 (m:List Pair) (l:List Pc) (s:B) (out:Bool) (hp:PortsOk m) (hm:m.length≤100) (hl:l.length≤1000) (hs:s.length≤1000) (hf:fits l s) :
 FnR Tryz.prog G 265 [.sl 3 (m.map Pair.row),.sl 4 (l.map Pc.row),.str s,.bool out] (.tup [.sl 3 ((turned m l s out).1.map Pair.row),.sl 1 ((turned m l s out).2.map λx=>[.str x])]):=by
 refine mF dg265 Tryz.ntmps265 ?_
 simp only[qqc,go_sem]
 with_reducible repeat' (first|refine br ?_ ?_<;>intro h e<;>(try simp only[e,go_sem])<;>clear e|rw[q01 (by omega)]|refine sd ?_<;>try simp only[go_sem]|fail)
 refine q0h (λa:List Pair×B×List B×Nat=>⟨q0e [(0,.sl 3 (a.1.map Pair.row)),(2,.str a.2.1),(3,.bool out),(10,.own 1017 a.2.2.1.length),(18,.sl 4 (l.map Pc.row)),(19,.int .i64 l.length),(20,.int .i64 (a.2.2.2:Int))],q09 [(1017,.arr 9 1 (a.2.2.1.map λx=>[.str x]))]⟩)
  (λa=>l.length - a.2.2.2) (λa=>a.2.2.2≤l.length∧PortsOk a.1∧a.1.length≤m.length+a.2.2.2∧a.2.1.length≤1000∧a.2.2.1.length=a.2.2.2∧fits (l.drop a.2.2.2) a.2.1 ∧
    turned m l s out=((turned a.1 (l.drop a.2.2.2) a.2.1 out).1,a.2.2.1++(turned a.1 (l.drop a.2.2.2) a.2.1 out).2)) (m,s,[],0)
  (leN [] (by simp only[go_sem];first|done|rfl) (by simp only[go_sem];first|done|rfl) (by simp[q0b]) (by simp only[go_sem])) ⟨by simp,hp,by simp,hs,rfl,by simpa using hf,by simp⟩ ?_
 intro⟨mm,ss,ts,i⟩ ⟨h1,h2,h3,h4,h5,h6,h7⟩
 simp only at h1 h2 h3 h4 h5 h6 h7
 simp only[go_sem]
 by_cases h:(i:Int)<l.length
 ·have hil:i<l.length:=by omega
  have hg:l.getD i default=l[i]:=by simp[List.getD,hil]
  rw[List.drop_eq_getElem_cons hil] at h6 h7
  generalize hq:l[i]=q at *
  simp only[eq_true h,go_sem]
  refine effG (by omega) ?_
  simp only[hg,go_sem]
  obtain⟨f1,f2⟩:=h6
  with_reducible repeat' (first|refine br ?_ ?_<;>intro h e<;>(try simp only[e,go_sem])<;>clear e|rw[q01 (by omega)]|refine sd ?_<;>try simp only[go_sem]|fail)
  have ht:=qbv mm q (ss.take q.size) out
  simp only[List.length_take] at ht
  refine q0s (c269 mm q.size q.named q.e.a q.e.p _ out h2 (by omega)) rfl rfl ?_
  simp only[go_sem]
  have h2':=h2.turn q (ss.take q.size) out
  generalize htt:turn mm q (ss.take q.size) out=r at *
  with_reducible repeat' (first|refine br ?_ ?_<;>intro h e<;>(try simp only[e,go_sem])<;>clear e|rw[q01 (by omega)]|refine sd ?_<;>try simp only[go_sem]|(first|refine cr (c150 ..) ?_)<;>try simp only[go_sem]|fail)
  refine⟨(r.1,ss.drop q.size,ts++[r.2],i+1),by simp;omega,⟨by simp;omega,h2',by simp;omega,by simp;omega,by simp;omega,f2, ?_⟩,leN [(1017,1040)] ?_ ?_ (by simp[q0b]) (by simp only[go_sem])⟩
  ·rw[h7];simp[turned,htt]
  ·simp only[go_sem];simp
  ·simp only[go_sem];simp
 ·simp only[eq_false h,go_sem]
  have:i=l.length:=by omega
  subst this
  rw[h7]
  simp[turned]
def qvu:IC:=sR [oP 6 (.mv (.c s0)),oP 7 (.mv cF)] (.seq (sR [mV 8 1,mV 9 0,oP 10 (.lens (.t 9)),bN 11 .gtr 8 10,mV 12 11,gF 13 12 (.mv (.t 1)),gF 14 12 (.mv (.t 2)),gF 15 12 (.lens (.t 14)),gF 16 12 (.bin .add (.t 13) (.t 15)),gF 17 12 (.bin .gtr (.t 16) (cI 40)),pT 18 12 17] (cD 18 (sR [mV 19 0,mV 6 19,oP 7 (.mv cF)] .ret) .skip)) (.seq (sR [mV 20 1,mV 21 2,oP 22 (.lens (.t 21)),bN 23 .add 20 22,mV 24 0,oP 25 (.lens (.t 24)),bN 26 .leq 23 25] (cD 26 (sR [mV 27 0,mV 6 27,oP 7 (.mv cT)] .ret) .skip)) (sR [mV 28 0,mV 29 2,mV 30 0,oP 31 (.lens (.t 30)),mV 32 1,bN 33 .sub 31 32,oP 34 (.sls (.t 29) (some (.t 33)) none),bN 35 .add 28 34,mV 6 35,oP 7 (.mv cT)] .ret)))
theorem dg172:Dg Tryz.prog 172 Tryz.f172 qvu [(.t 6),(.t 7)]:=⟨Tryz.func172,by kernel_rfl,by kernel_rfl⟩
theorem c172 (came:B) (n:Int) (text:B) (hn:0≤n∧n≤1000) (hc:came.length≤1000) (ht:text.length≤1000):FnR Tryz.prog G 172 [.str came,.int .i64 n,.str text] (.tup [.str (q0a came n text).1,.bool (q0a came n text).2]):=by
 refine mF dg172 Tryz.ntmps172 ?_
 simp only[qvu,go_sem]
 with_reducible repeat' (first|rw[q01 (by omega)];try simp only[go_sem]|refine br ?_ ?_<;>intro h e<;>(try simp only[e,go_sem])<;>clear e|refine sd ?_<;>try simp only[go_sem]|fail)
 ·have:q0a came n text=(came,false):=by
   unfold q0a;rw[if_pos (by simp;omega)]
  rw[this];exact⟨rfl,rfl⟩
 ·have:q0a came n text=(came,false):=by
   unfold q0a;rw[if_pos (by simp;omega)]
  rw[this];exact⟨rfl,rfl⟩
 ·have:q0a came n text=(came,true):=by
   unfold q0a;rw[if_neg (by simp;omega),if_pos (by omega)]
  rw[this];exact⟨rfl,rfl⟩
 ·refine pureG (by simp;omega) ?_
  simp only[go_sem]
  have:q0a came n text=(came++text.drop (came.length - n).toNat,true):=by
   unfold q0a;rw[if_neg (by simp;omega),if_neg (by omega)]
  rw[this,List.take_length];exact⟨rfl,rfl⟩
def qss:IC:=sR [oP 1 (.box 167 (.t 0)),oP 2 (.mv (.c s0))] (sR [oP 3 (.mv (.c s0))] (.seq (sR [oP 4 (.mv (.c i0))] (.block 0 (.loop (.seq (sR [mV 5 4,fD 6 1 1,lD 7 1 6,oP 8 (.len (.t 7)),bN 9 .lss 5 8] (cD 9 .skip (.exit 0))) (.seq (.block 1 (.reg [mV 12 3,fD 13 1 1,lD 14 1 13,mV 15 4,oP 16 (.iad 2 (.t 14) (.t 15)),fD 17 1 16,lD 18 1 17,bN 19 .add 12 18,mV 3 19])) (.reg [mV 10 4,oP 11 (.bin .add (.t 10) (cI 1)),mV 4 11])))))) (sR [mV 20 3,mV 2 20] .ret)))
theorem dg236:Dg Tryz.prog 236 Tryz.f236 qss [(.t 2)]:=⟨Tryz.func236,by kernel_rfl,by kernel_rfl⟩
theorem c236 (s:Strm) (h:StrB s):FnR Tryz.prog G 236 [.agg [.str s.inn,.sl 2 (s.parts.map Part.row)]] (.str (sOut s)):=by
 refine mF dg236 Tryz.ntmps236 ?_
 obtain⟨h1,h2,h3⟩:=h
 have hol:=qg1 (l:=s.parts) λp hp=>(h3 p hp).2.2.1
 simp only[qss,go_sem]
 refine q0h (λi:Nat=>⟨q0e [(1,.pv 1001 0),(3,.str (qik (s.parts.take i))),(4,.int .i64 (i:Int))],q09 [(1001,.var 167 [.str s.inn,.sl 2 (s.parts.map Part.row)])]⟩) (λi=>s.parts.length - i) (λi=>i≤s.parts.length) 0 (leQ []) (Nat.zero_le _) ?_
 intro i hi
 simp only[go_sem]
 by_cases h:(i:Int)<s.parts.length
 ·have hil:i<s.parts.length:=by omega
  have hst:=qfo hil
  have ho:=hol i
  have h3':=(h3 _ (List.getElem_mem hil)).2.2.1
  have hg:s.parts.getD i default=s.parts[i]:=by simp[List.getD,hil]
  simp only[eq_true h,go_sem]
  refine effG (by omega) ?_
  simp only[hg,go_sem]
  with_reducible repeat' (first|rw[q01 (by omega)];try simp only[go_sem]|refine br ?_ ?_<;>intro h e<;>(try simp only[e,go_sem])<;>clear e|refine sd ?_<;>try simp only[go_sem]|fail)
  exact⟨i+1,by omega,by omega,leN [] (by simp only[go_sem,hst];omega) (by simp only[go_sem]) (by simp[q0b]) (by simp only[go_sem])⟩
 ·simp only[eq_false h,go_sem]
  have:i=s.parts.length:=by omega
  subst this
  rw[List.take_length];rfl
def qux:IC:=sR [oP 1 (.box 167 (.t 0)),oP 2 (.mv (.c i0))] (sR [oP 3 (.mv (.c i0))] (.seq (sR [oP 4 (.mv (.c i0))] (.block 0 (.loop (.seq (sR [mV 5 4,fD 6 1 1,lD 7 1 6,oP 8 (.len (.t 7)),bN 9 .lss 5 8] (cD 9 .skip (.exit 0))) (.seq (.block 1 (.reg [mV 12 3,fD 13 1 1,lD 14 1 13,mV 15 4,oP 16 (.iad 2 (.t 14) (.t 15)),fD 17 0 16,lD 18 1 17,bN 19 .add 12 18,mV 3 19])) (.reg [mV 10 4,oP 11 (.bin .add (.t 10) (cI 1)),mV 4 11])))))) (sR [mV 20 3,mV 2 20] .ret)))
theorem dg258:Dg Tryz.prog 258 Tryz.f258 qux [(.t 2)]:=⟨Tryz.func258,by kernel_rfl,by kernel_rfl⟩
theorem c258 (s:Strm) (h:StrB s):FnR Tryz.prog G 258 [.agg [.str s.inn,.sl 2 (s.parts.map Part.row)]] (.int .i64 (doneP s.parts)):=by
 refine mF dg258 Tryz.ntmps258 ?_
 obtain⟨h1,h2,h3⟩:=h
 have hol:=qbh (l:=s.parts) λp hp=>(h3 p hp).1.2
 simp only[qux,go_sem]
 refine q0h (λi:Nat=>⟨q0e [(1,.pv 1001 0),(3,.int .i64 (doneP (s.parts.take i))),(4,.int .i64 (i:Int))],q09 [(1001,.var 167 [.str s.inn,.sl 2 (s.parts.map Part.row)])]⟩) (λi=>s.parts.length - i) (λi=>i≤s.parts.length) 0 (leQ []) (Nat.zero_le _) ?_
 intro i hi
 simp only[go_sem]
 by_cases h:(i:Int)<s.parts.length
 ·have hil:i<s.parts.length:=by omega
  have hst:=q7q hil
  have ho:=hol i
  have h3':=(h3 _ (List.getElem_mem hil)).1
  have hg:s.parts.getD i default=s.parts[i]:=by simp[List.getD,hil]
  simp only[eq_true h,go_sem]
  refine effG (by omega) ?_
  simp only[hg,go_sem]
  with_reducible repeat' (first|rw[q01 (by omega)];try simp only[go_sem]|refine br ?_ ?_<;>intro h e<;>(try simp only[e,go_sem])<;>clear e|refine sd ?_<;>try simp only[go_sem]|fail)
  exact⟨i+1,by omega,by omega,leN [] (by simp only[go_sem,hst];omega) (by simp only[go_sem]) (by simp[q0b]) (by simp only[go_sem])⟩
 ·simp only[eq_false h,go_sem]
  have:i=s.parts.length:=by omega
  subst this
  rw[List.take_length]
def qwh:IC:=sR [oP 2 (.box 167 (.t 0)),oP 4 (.mv (.c i0))] (sR [oP 5 (.mv (.c i0))] (.seq (sR [oP 6 (.mv (.c i0))] (.block 0 (.loop (.seq (sR [mV 7 6,fD 8 1 2,lD 9 1 8,oP 10 (.len (.t 9)),bN 11 .lss 7 10,mV 12 11,gT 13 12 (.fad 1 (.t 2)),gT 14 12 (.ld 1 false (.t 13)),gT 15 12 (.mv (.t 6)),gT 16 12 (.iad 2 (.t 14) (.t 15)),gT 17 12 (.fad 0 (.t 16)),gT 18 12 (.ld 1 false (.t 17)),gT 19 12 (.mv (.t 1)),gT 20 12 (.bin .leq (.t 18) (.t 19)),pF 21 12 20] (cD 21 .skip (.exit 0))) (.seq (.block 1 (sR [mV 24 1,fD 25 1 2,lD 26 1 25,mV 27 6,oP 28 (.iad 2 (.t 26) (.t 27)),fD 29 0 28,lD 30 1 29,bN 31 .sub 24 30,mV 1 31] (.reg [mV 32 5,fD 33 1 2,lD 34 1 33,mV 35 6,oP 36 (.iad 2 (.t 34) (.t 35)),fD 37 1 36,lD 38 1 37,oP 39 (.lens (.t 38)),bN 40 .add 32 39,mV 5 40]))) (.reg [mV 22 6,oP 23 (.bin .add (.t 22) (cI 1)),mV 6 23])))))) (sR [mV 41 5,mV 4 41] .ret)))
theorem dg261:Dg Tryz.prog 261 Tryz.f261 qwh [(.t 4)]:=⟨Tryz.func261,by kernel_rfl,by kernel_rfl⟩
theorem c261 (s:Strm) (n:Int) (h:StrB s) (hn : -10000≤n∧n≤10000):FnR Tryz.prog G 261 [.agg [.str s.inn,.sl 2 (s.parts.map Part.row)],.int .i64 n] (.int .i64 (q0x s.parts n)):=by
 refine mF dg261 Tryz.ntmps261 ?_
 obtain⟨h1,h2,h3⟩:=h
 simp only[qwh,go_sem]
 refine q0h (λa:Nat×Int×Int=>⟨q0e [(1,.int .i64 a.2.1),(2,.pv 1002 0),(5,.int .i64 a.2.2),(6,.int .i64 (a.1:Int))],q09 [(1002,.var 167 [.str s.inn,.sl 2 (s.parts.map Part.row)])]⟩) (λa=>s.parts.length - a.1)
  (λa=>a.1≤s.parts.length∧q0x s.parts n=a.2.2+q0x (s.parts.drop a.1) a.2.1∧(-20000≤a.2.1∧a.2.1≤10000) ∧ -10000 - 6*a.1≤a.2.1∧0≤a.2.2∧a.2.2≤6*a.1) (0,n,0) (leQ []) ⟨Nat.zero_le _,by simp,⟨by simp;omega,by simp;omega⟩,by simp;omega,by simp,by simp⟩ ?_
 intro⟨i,x,y⟩ ⟨hi,ha,hx,hx2,hy,hy2⟩
 simp only at hi ha hx hx2 hy hy2
 simp only[go_sem]
 by_cases h:(i:Int)<s.parts.length
 ·have hil:i<s.parts.length:=by omega
  have h3':=h3 _ (List.getElem_mem hil)
  have hg:s.parts.getD i default=s.parts[i]:=by simp[List.getD,hil]
  rw[List.drop_eq_getElem_cons hil] at ha
  simp only[q0x] at ha
  simp only[eq_true h,go_sem]
  refine effG (by omega) ?_
  simp only[hg,go_sem]
  with_reducible repeat' (first|rw[q01 (by omega)];try simp only[go_sem,hg]|refine br ?_ ?_<;>intro h e<;>(try simp only[e,go_sem,hg])<;>clear e|refine sd ?_<;>try simp only[go_sem,hg]|fail)
  ·rw[if_pos h] at ha
   exact⟨(i+1,x - s.parts[i].size,y+s.parts[i].text.length),by simp;omega,⟨by simp;omega,by simp only;rw[ha];omega,by simp only;omega,by simp only;omega,by simp only;omega,by simp only;omega⟩,(leQ [])⟩
  ·rw[if_neg h] at ha
   rw[ha];omega
 ·simp only[eq_false h,go_sem]
  have:i=s.parts.length:=by omega
  subst this
  rw[ha,List.drop_length];simp[q0x]
def qw7:IC:=sR [oP 2 (.box 167 (.t 0)),oP 4 (.mv (.c i0))] (sR [oP 5 (.mv (.c i0))] (.seq (sR [oP 6 (.mv (.c i0))] (.block 0 (.loop (.seq (sR [mV 7 6,fD 8 1 2,lD 9 1 8,oP 10 (.len (.t 9)),bN 11 .lss 7 10,mV 12 11,gT 13 12 (.fad 1 (.t 2)),gT 14 12 (.ld 1 false (.t 13)),gT 15 12 (.mv (.t 6)),gT 16 12 (.iad 2 (.t 14) (.t 15)),gT 17 12 (.fad 1 (.t 16)),gT 18 12 (.ld 1 false (.t 17)),gT 19 12 (.lens (.t 18)),gT 20 12 (.mv (.t 1)),gT 21 12 (.bin .leq (.t 19) (.t 20)),pF 22 12 21] (cD 22 .skip (.exit 0))) (.seq (.block 1 (sR [mV 25 1,fD 26 1 2,lD 27 1 26,mV 28 6,oP 29 (.iad 2 (.t 27) (.t 28)),fD 30 1 29,lD 31 1 30,oP 32 (.lens (.t 31)),bN 33 .sub 25 32,mV 1 33] (.reg [mV 34 5,fD 35 1 2,lD 36 1 35,mV 37 6,oP 38 (.iad 2 (.t 36) (.t 37)),fD 39 0 38,lD 40 1 39,bN 41 .add 34 40,mV 5 41]))) (.reg [mV 23 6,oP 24 (.bin .add (.t 23) (cI 1)),mV 6 24])))))) (sR [mV 42 5,mV 4 42] .ret)))
theorem dg237:Dg Tryz.prog 237 Tryz.f237 qw7 [(.t 4)]:=⟨Tryz.func237,by kernel_rfl,by kernel_rfl⟩
theorem c237 (s:Strm) (n:Int) (h:StrB s) (hn : -10000≤n∧n≤10000):FnR Tryz.prog G 237 [.agg [.str s.inn,.sl 2 (s.parts.map Part.row)],.int .i64 n] (.int .i64 (q2c s.parts n)):=by
 refine mF dg237 Tryz.ntmps237 ?_
 obtain⟨h1,h2,h3⟩:=h
 simp only[qw7,go_sem]
 refine q0h (λa:Nat×Int×Int=>⟨q0e [(1,.int .i64 a.2.1),(2,.pv 1002 0),(5,.int .i64 a.2.2),(6,.int .i64 (a.1:Int))],q09 [(1002,.var 167 [.str s.inn,.sl 2 (s.parts.map Part.row)])]⟩) (λa=>s.parts.length - a.1)
  (λa=>a.1≤s.parts.length∧q2c s.parts n=a.2.2+q2c (s.parts.drop a.1) a.2.1∧(-20000≤a.2.1∧a.2.1≤10000) ∧ -10000 - 6*a.1≤a.2.1∧0≤a.2.2∧a.2.2≤6*a.1) (0,n,0) (leQ []) ⟨Nat.zero_le _,by simp,⟨by simp;omega,by simp;omega⟩,by simp;omega,by simp,by simp⟩ ?_
 intro⟨i,x,y⟩ ⟨hi,ha,hx,hx2,hy,hy2⟩
 simp only at hi ha hx hx2 hy hy2
 simp only[go_sem]
 by_cases h:(i:Int)<s.parts.length
 ·have hil:i<s.parts.length:=by omega
  have h3':=h3 _ (List.getElem_mem hil)
  have hg:s.parts.getD i default=s.parts[i]:=by simp[List.getD,hil]
  rw[List.drop_eq_getElem_cons hil] at ha
  simp only[q2c] at ha
  simp only[eq_true h,go_sem]
  refine effG (by omega) ?_
  simp only[hg,go_sem]
  with_reducible repeat' (first|rw[q01 (by omega)];try simp only[go_sem,hg]|refine br ?_ ?_<;>intro h e<;>(try simp only[e,go_sem,hg])<;>clear e|refine sd ?_<;>try simp only[go_sem,hg]|fail)
  ·rw[if_pos h] at ha
   exact⟨(i+1,x - s.parts[i].text.length,y+s.parts[i].size),by simp;omega,⟨by simp;omega,by simp only;rw[ha];omega,by simp only;omega,by simp only;omega,by simp only;omega,by simp only;omega⟩,(leQ [])⟩
  ·rw[if_neg h] at ha
   rw[ha];omega
 ·simp only[eq_false h,go_sem]
  have:i=s.parts.length:=by omega
  subst this
  rw[ha,List.drop_length];simp[q2c]
def qp4:IC:=sR [oP 2 (.box 167 (.t 0)),oP 4 (.mv (.c i0))] (sR [oP 5 (.mv (.c i0))] (.seq (sR [fD 8 1 2,lD 9 1 8,oP 10 (.len (.t 9)),oP 11 (.mv (.c i0))] (.block 0 (.loop (sR [bN 12 .lss 11 10] (.seq (cD 12 .skip (.exit 0)) (.seq (.block 1 (sR [oP 13 (.iad 2 (.t 9) (.t 11)),lA 14 2 13,oP 7 (.alloc 204 [i0,s0]),nP (.sto 2 (.t 7) (.t 14))] (.seq (sR [mV 15 1,fD 16 0 7,lD 17 1 16,bN 18 .sub 15 17,mV 1 18] (sR [mV 19 1,oP 20 (.bin .lss (.t 19) (.c i0))] (cD 20 (.exit 0) .skip))) (.reg [mV 21 5,fD 22 1 7,lD 23 1 22,oP 24 (.lens (.t 23)),bN 25 .add 21 24,mV 5 25])))) (.reg [oP 26 (.bin .add (.t 11) (cI 1)),mV 11 26]))))))) (sR [mV 27 5,mV 4 27] .ret)))
theorem dg249:Dg Tryz.prog 249 Tryz.f249 qp4 [(.t 4)]:=⟨Tryz.func249,by kernel_rfl,by kernel_rfl⟩
theorem qkg (s:Strm) (n:Int) (h:StrB s) (hn : -10000≤n∧n≤10000):FnR Tryz.prog G 249 [.agg [.str s.inn,.sl 2 (s.parts.map Part.row)],.int .i64 n] (.int .i64 (q0x s.parts n)):=by
 refine mF dg249 Tryz.ntmps249 ?_
 obtain⟨h1,h2,h3⟩:=h
 simp only[qp4,go_sem]
 refine q0h (λa:Nat×Int×Int=>⟨q0e [(1,.int .i64 a.2.1),(5,.int .i64 a.2.2),(9,.sl 2 (s.parts.map Part.row)),(10,.int .i64 s.parts.length),(11,.int .i64 (a.1:Int))],q09 []⟩) (λa=>s.parts.length - a.1)
  (λa=>a.1≤s.parts.length∧q0x s.parts n=a.2.2+q0x (s.parts.drop a.1) a.2.1∧(-20000≤a.2.1∧a.2.1≤10000) ∧ -10000 - 6*a.1≤a.2.1∧0≤a.2.2∧a.2.2≤6*a.1) (0,n,0) (leQ []) ⟨Nat.zero_le _,by simp,⟨by simp;omega,by simp;omega⟩,by simp;omega,by simp,by simp⟩ ?_
 intro⟨i,x,y⟩ ⟨hi,ha,hx,hx2,hy,hy2⟩
 simp only at hi ha hx hx2 hy hy2
 simp only[go_sem]
 by_cases h:(i:Int)<s.parts.length
 ·have hil:i<s.parts.length:=by omega
  have h3':=h3 _ (List.getElem_mem hil)
  have hg:s.parts.getD i default=s.parts[i]:=by simp[List.getD,hil]
  rw[List.drop_eq_getElem_cons hil] at ha
  simp only[q0x] at ha
  simp only[eq_true h,go_sem]
  refine effG (by omega) ?_
  simp only[hg,go_sem]
  with_reducible repeat' (first|rw[q01 (by omega)];try simp only[go_sem,hg]|refine br ?_ ?_<;>intro h e<;>(try simp only[e,go_sem,hg])<;>clear e|refine sd ?_<;>try simp only[go_sem,hg]|fail)
  ·rw[if_neg (by omega)] at ha
   rw[ha];omega
  ·rw[if_pos (by omega)] at ha
   exact⟨(i+1,x - s.parts[i].size,y+s.parts[i].text.length),by simp;omega,⟨by simp;omega,by simp only;rw[ha];omega,by simp only;omega,by simp only;omega,by simp only;omega,by simp only;omega⟩,(leQ [])⟩
 ·simp only[eq_false h,go_sem]
  have:i=s.parts.length:=by omega
  subst this
  rw[ha,List.drop_length];simp[q0x]
def qt5:IC:=sR [oP 2 (.box 167 (.t 0)),oP 4 (.mv (.c i0))] (sR [oP 5 (.mv (.c i0))] (.seq (sR [fD 8 1 2,lD 9 1 8,oP 10 (.len (.t 9)),oP 11 (.mv (.c i0))] (.block 0 (.loop (sR [bN 12 .lss 11 10] (.seq (cD 12 .skip (.exit 0)) (.seq (.block 1 (sR [oP 13 (.iad 2 (.t 9) (.t 11)),lA 14 2 13,oP 7 (.alloc 204 [i0,s0]),nP (.sto 2 (.t 7) (.t 14))] (.seq (sR [mV 15 1,fD 16 1 7,lD 17 1 16,oP 18 (.lens (.t 17)),bN 19 .sub 15 18,mV 1 19] (sR [mV 20 1,oP 21 (.bin .lss (.t 20) (.c i0))] (cD 21 (.exit 0) .skip))) (.reg [mV 22 5,fD 23 0 7,lD 24 1 23,bN 25 .add 22 24,mV 5 25])))) (.reg [oP 26 (.bin .add (.t 11) (cI 1)),mV 11 26]))))))) (sR [mV 27 5,mV 4 27] .ret)))
theorem dg247:Dg Tryz.prog 247 Tryz.f247 qt5 [(.t 4)]:=⟨Tryz.func247,by kernel_rfl,by kernel_rfl⟩
theorem c247 (s:Strm) (n:Int) (h:StrB s) (hn : -10000≤n∧n≤10000):FnR Tryz.prog G 247 [.agg [.str s.inn,.sl 2 (s.parts.map Part.row)],.int .i64 n] (.int .i64 (q2c s.parts n)):=by
 refine mF dg247 Tryz.ntmps247 ?_
 obtain⟨h1,h2,h3⟩:=h
 simp only[qt5,go_sem]
 refine q0h (λa:Nat×Int×Int=>⟨q0e [(1,.int .i64 a.2.1),(5,.int .i64 a.2.2),(9,.sl 2 (s.parts.map Part.row)),(10,.int .i64 s.parts.length),(11,.int .i64 (a.1:Int))],q09 []⟩) (λa=>s.parts.length - a.1)
  (λa=>a.1≤s.parts.length∧q2c s.parts n=a.2.2+q2c (s.parts.drop a.1) a.2.1∧(-20000≤a.2.1∧a.2.1≤10000) ∧ -10000 - 6*a.1≤a.2.1∧0≤a.2.2∧a.2.2≤6*a.1) (0,n,0) (leQ []) ⟨Nat.zero_le _,by simp,⟨by simp;omega,by simp;omega⟩,by simp;omega,by simp,by simp⟩ ?_
 intro⟨i,x,y⟩ ⟨hi,ha,hx,hx2,hy,hy2⟩
 simp only at hi ha hx hx2 hy hy2
 simp only[go_sem]
 by_cases h:(i:Int)<s.parts.length
 ·have hil:i<s.parts.length:=by omega
  have h3':=h3 _ (List.getElem_mem hil)
  have hg:s.parts.getD i default=s.parts[i]:=by simp[List.getD,hil]
  rw[List.drop_eq_getElem_cons hil] at ha
  simp only[q2c] at ha
  simp only[eq_true h,go_sem]
  refine effG (by omega) ?_
  simp only[hg,go_sem]
  with_reducible repeat' (first|rw[q01 (by omega)];try simp only[go_sem,hg]|refine br ?_ ?_<;>intro h e<;>(try simp only[e,go_sem,hg])<;>clear e|refine sd ?_<;>try simp only[go_sem,hg]|fail)
  ·rw[if_neg (by omega)] at ha
   rw[ha];omega
  ·rw[if_pos (by omega)] at ha
   exact⟨(i+1,x - s.parts[i].text.length,y+s.parts[i].size),by simp;omega,⟨by simp;omega,by simp only;rw[ha];omega,by simp only;omega,by simp only;omega,by simp only;omega,by simp only;omega⟩,(leQ [])⟩
 ·simp only[eq_false h,go_sem]
  have:i=s.parts.length:=by omega
  subst this
  rw[ha,List.drop_length];simp[q2c]
def qon:IC:=sR [oP 1 (.box 167 (.t 0)),oP 2 (.alloc 167 [s0,.nils])] (.seq (.drw [0,1,0,4,12,28,63,127] [(0,fD 3 0 1),(1,lD 4 1 3),(2,fD 5 1 1),(3,lD 6 1 5),(4,oP 7 (.call 210 [.t 6])),(5,oP 8 (.call 209 [.t 7])),(6,oP 9 (.build [s0,.nils] [(0,(1,.t 4)),(1,(1,.t 8))])),(7,nP (.sto 2 (.t 2) (.t 9)))]) .ret)
theorem qqj:Dg Tryz.prog 175 Tryz.f175 qon [(.cell 2 2 true)]:=⟨Tryz.func175,by kernel_rfl,by kernel_rfl⟩
theorem c175 (t:B) (rows:List (List V)) (hr:rows.length≤2000000):FnR Tryz.prog G 175 [.agg [.str t,.sl 2 rows]] (.agg [.str t,.sl 2 rows]):=by
 refine mF qqj Tryz.ntmps175 ?_
 simp only[qon,go_sem]
 repeat' (first
  | (with_reducible refine chkI ?_ ?_;· kernel_rfl;try simp only[go_sem])
  | (refine q0t (c210 rows hr) [] 7 1 (by simp only[go_sem];first|done|simp) (by simp) (by rintro _ _ ⟨rfl,rfl⟩;simp) (by intro i hi;obtain rfl:i=0:=(by omega);simp only[go_sem]) ?_;rintro _ _ ⟨rfl,rfl⟩;simp only[go_sem])
  | (refine q1t (o209 rows rows.length rfl) [100700] [] 8 1 (by simp only[go_sem];first|done|simp) (by simp only[go_sem];first|done|simp) (by simp) (by simp) (by rintro _ _ ⟨rfl,rfl⟩;simp) (by intro i hi;obtain rfl:i=0:=(by omega);simp only[go_sem]) ?_;rintro _ _ ⟨rfl,rfl⟩;simp only[go_sem])
  | kernel_rfl)
def qv3:IC:=sR [oP 1 (.box 167 (.t 0)),oP 2 (.alloc 167 [s0,.nils])] (.seq (.drw [0,1,0,0,8,28,63,127] [(0,fD 3 0 1),(1,lD 4 1 3),(2,oP 5 (.bsl 204 2 [])),(3,fD 6 1 1),(4,lD 7 1 6),(5,oP 8 (.app 204 2 (.t 5) (.t 7))),(6,oP 9 (.build [s0,.nils] [(0,(1,.t 4)),(1,(1,.t 8))])),(7,nP (.sto 2 (.t 2) (.t 9)))]) .ret)
theorem dg232:Dg Tryz.prog 232 Tryz.f232 qv3 [(.cell 2 2 true)]:=⟨Tryz.func232,by kernel_rfl,by kernel_rfl⟩
theorem c232 (t:B) (rows:List (List V)) (hr:rows.length≤2000000):FnR Tryz.prog G 232 [.agg [.str t,.sl 2 rows]] (.agg [.str t,.sl 2 rows]):=by
 refine mF dg232 Tryz.ntmps232 ?_
 simp only[qv3,go_sem]
 with_reducible repeat' (first|refine br ?_ ?_<;>intro h e<;>(try simp only[e,go_sem])<;>clear e|rw[q01 (by omega)]|refine sd ?_<;>try simp only[go_sem]|fail)
end Go.Proofs.YtpnekhiejecipaaGreatDoor.W
