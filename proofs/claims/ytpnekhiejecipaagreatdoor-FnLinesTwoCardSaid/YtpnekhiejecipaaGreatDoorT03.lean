/- Part 3 of the proof: the walk over values, the plain model, contracts of the functions of the program. -/
import Derived.Test.YtpnekhiejecipaaGreatDoorT02
import Derived.Test.YtpnekhiejecipaaGreatDoorChecked
import Derived.Shelf.LaysC
import Derived.Shelf.LaysM
import Derived.Shelf.Strings.Builder1
import Derived.Shelf.Small.Wraps
import Derived.Shelf.Strconv.Itoa3
import Derived.Shelf.Strconv.Clone
import Derived.Shelf.Strings.Cut
import Derived.Shelf.Strings.Split
import Derived.Test.YtpnekhiejecipaaGreatDoorProg
import Derived.OwnWalk
import Derived.WalkKit
import Derived.Deep.LoopGhost
import Derived.Lib.Walk
import Derived.Lib.SliceRun
import Derived.Shelf.Strings.OnBuilder
import Derived.Deep.RegionLaw
import Derived.Sort.WalkB12
set_option linter.all false
namespace Go.Proofs.YtpnekhiejecipaaGreatDoor.M
def SB (s:Strm):Prop:=s.inn.length≤2000000∧s.parts.length≤2000000∧∀p∈s.parts,p.text.length≤2000000
def StrB (s:Strm):Prop:=s.inn.length≤40∧s.parts.length≤40∧∀p∈s.parts,(1≤p.size∧p.size≤6)∧1≤p.text.length∧p.text.length≤6∧txOk p.text=true
theorem q53:∀ {ps:List Part} {qs:List Pc},q0x ps qs=true→ps.length=qs.length
 | [],[],_=>rfl
 | p::ps,q::qs,h=>by
   simp only[q0x,Bool.and_eq_true] at h
   simp[q53 h.2]
 | [],_::_,h=>by simp[q0x] at h
 | _::_,[],h=>by simp[q0x] at h
theorem qar:∀ {ps:List Part} {qs:List Pc},q0x ps qs=true→∀(i:Nat) p q,ps[i]?=some p→qs[i]?=some q→q63 p q=true
 | [],[],_,i,p,q,h,_=>by simp at h
 | p::ps,q::qs,h,i,p',q',h1,h2=>by
   simp only[q0x,Bool.and_eq_true] at h
   cases i with
   | zero=>simp at h1 h2;subst h1 h2;exact h.1
   | succ i=>exact qar h.2 i p' q' (by simpa using h1) (by simpa using h2)
 | [],_::_,h,_,_,_,_,_=>by simp[q0x] at h
 | _::_,[],h,_,_,_,_,_=>by simp[q0x] at h
theorem ql0:∀(n:Nat) (s:B),s.length≤n→∀q∈pcs s,1≤q.size∧q.size≤6:=by
 intro n
 induction n with
 | zero =>
   intro s hs
   have:s=[]:=List.eq_nil_of_length_eq_zero (by omega)
   subst this;intro q hq;cases hq
 | succ n ih =>
   intro s hs q hq
   by_cases h:s=[]
   ·subst h;cases hq
   obtain⟨p1,p2,p3⟩:=q30 h
   rw[q3c h] at hq
   rcases List.mem_cons.1 hq with rfl|hq
   ·exact⟨p1,p3⟩
   ·exact ih _ (by simp;omega) q hq
theorem q7x (t:B):∀q∈pieces t,1≤q.size∧q.size≤6:=by
 rw[q35];exact ql0 _ _ (Nat.le_refl _)
theorem q86 {t:B} (h:txOk t=true):t.length≤40:=by
 simp only[txOk,Bool.and_eq_true,decide_eq_true_eq] at h;exact h.2
theorem q2n {p:Part} {q:Pc}:q63 p q=true↔p.size=q.size∧(1≤p.text.length∧p.text.length≤6)∧txOk p.text=true:=by
 simp only[q63,Bool.and_eq_true,decide_eq_true_eq,within_iff]
 constructor
 ·rintro⟨⟨a,b⟩,c⟩;exact⟨a,by omega,c⟩
 ·rintro⟨a,b,c⟩;exact⟨⟨a,by omega⟩,c⟩
theorem q0h {s:Strm} (h:strmOk s=true):StrB s:=by
 simp only[strmOk,Bool.and_eq_true] at h
 have hl:=q53 h.2
 have h40:=q86 h.1
 have:=q4p s.inn
 refine⟨h40,by omega,λp hp=>?_⟩
 obtain⟨i,hi⟩:=List.getElem?_of_mem hp
 have hil:=(List.getElem?_eq_some_iff.1 hi).1
 have hq:=zE (show i<(pieces s.inn).length by omega)
 obtain⟨a,b,c⟩:=q2n.1 (qar h.2 i _ _ hi hq)
 have:=q7x s.inn _ (List.getElem_mem (show i<(pieces s.inn).length by omega))
 exact⟨by omega,b.1,b.2,c⟩
theorem StrB.sb {s:Strm} (h:StrB s):SB s:=⟨by have:=h.1;omega,by have:=h.2.1;omega,λp hp=>by have:=(h.2.2 p hp).2.2.1;omega⟩
theorem q2u (p:Part) (l:List Part):doneP (p::l)=p.size.toNat+doneP l:=by simp[doneP]
theorem q7z:∀ {ps:List Part} {qs:List Pc},q0x ps qs=true→doneP ps=(qs.map (·.size)).sum
 | [],[],_=>rfl
 | p::ps,q::qs,h=>by
   simp only[q0x,Bool.and_eq_true] at h
   have:=(q2n.1 h.1).1
   rw[q2u,q7z h.2,this];simp
 | [],_::_,h=>by simp[q0x] at h
 | _::_,[],h=>by simp[q0x] at h
theorem q26 {s:Strm} (h:strmOk s=true):doneP s.parts=(body s.inn).length∧s.parts.length=(pieces s.inn).length:=by
 simp only[strmOk,Bool.and_eq_true] at h
 refine⟨?_,q53 h.2⟩
 rw[q7z h.2,q35,qu0 _ _ (Nat.le_refl _)]
theorem qba {s:Strm} (h:strmOk s=true) (t:B):s.parts.length≤(pieces (s.inn++t)).length∧(pieces (s.inn++t)).drop s.parts.length=pcs ((body (s.inn++t)).drop (body s.inn).length) ∧
 doneP s.parts≤(s.inn++t).length∧fits ((pieces (s.inn++t)).drop s.parts.length) ((s.inn++t).drop (doneP s.parts)):=by
 obtain⟨h1,h2⟩:=q26 h
 have hp:=q7l s.inn t
 have hb:=q88 s.inn t
 have e1:(pieces (s.inn++t)).drop s.parts.length=pcs ((body (s.inn++t)).drop (body s.inn).length):=by
  rw[hp,h2,List.drop_left']
  rfl
 refine⟨by rw[hp,h2];simp,e1,by rw[h1,q2r];simp;omega, ?_⟩
 rw[e1,h1]
 have:s.inn++t=body (s.inn++t)++(s.inn++t).drop ((s.inn++t).length - q6a (s.inn++t)):=(List.take_append_drop _ _).symm
 conv=>rhs;rw[this]
 have hl:=congrArg List.length hb
 simp only[zA] at hl
 rw[List.drop_append_of_le_length (by omega)]
 exact qmx _ _ _ (Nat.le_refl _)
theorem forP_rng {l:List Part} (h:∀p∈l,p.text.length≤6):∀i,0≤q0s l i∧q0s l i≤6*l.length:=by
 induction l with
 | nil=>intro i;simp[q0s]
 | cons p l ih =>
   intro i
   have:=ih (λq hq=>h q (by simp[hq])) (i - p.size)
   have:=h p (by simp)
   simp only[q0s,zC]
   split<;>omega
theorem q8s {l:List Part} (h:∀p∈l,0≤p.size∧p.size≤6):∀i,0≤backP l i∧backP l i≤6*l.length:=by
 induction l with
 | nil=>intro i;simp[backP]
 | cons p l ih =>
   intro i
   have:=ih (λq hq=>h q (by simp[hq])) (i - p.text.length)
   have:=h p (by simp)
   simp only[backP,zC]
   split<;>omega
def qo7 (l:List Part):B:=l.flatMap (·.text)
theorem qim {l:List Part} {i:Nat} (h:i<l.length):qo7 (l.take (i+1))=qo7 (l.take i)++l[i].text:=by
 unfold qo7
 rw[List.take_add_one,zE h,List.flatMap_append]
 simp
theorem qjt {l:List Part} (h:∀p∈l,p.text.length≤6) (i:Nat):(qo7 (l.take i)).length≤6*l.length:=by
 have key:∀(l:List Part),(∀p∈l,p.text.length≤6)→(qo7 l).length≤6*l.length:=by
  intro l
  induction l with
  | nil=>intro _;simp[qo7]
  | cons p l ih =>
    intro h
    have:=ih λq hq=>h q (by simp[hq])
    have:=h p (by simp)
    simp only[qo7,List.flatMap_cons,zA,zC] at *
    omega
 have:=key (l.take i) λp hp=>h p (List.mem_of_mem_take hp)
 simp only[List.length_take] at this
 omega
theorem qa4 {l:List Part} {i:Nat} (h:i<l.length):doneP (l.take (i+1))=doneP (l.take i)+l[i].size.toNat:=by
 unfold doneP
 rw[List.take_add_one,zE h,List.map_append,List.sum_append]
 rfl
theorem qfn {l:List Part} (h:∀p∈l,p.size≤6) (i:Nat):doneP (l.take i)≤6*l.length:=by
 have key:∀(l:List Part),(∀p∈l,p.size≤6)→doneP l≤6*l.length:=by
  intro l
  induction l with
  | nil=>intro _;simp[doneP]
  | cons p l ih =>
    intro h
    have:=ih λq hq=>h q (by simp[hq])
    have:=h p (by simp)
    rw[q2u,zC]
    omega
 have:=key (l.take i) λp hp=>h p (List.mem_of_mem_take hp)
 simp only[List.length_take] at this
 omega
theorem q78 {c:B} {n:Int} {t:B} (h:(q0b c n t).2=true):∃x,(q0b c n t).1=c++x∧x.length≤t.length:=by
 unfold q0b at h ⊢
 split
 ·rename_i hc;rw[if_pos hc] at h;cases h
 ·split
  ·exact⟨[],by simp,by simp⟩
  ·exact⟨_,rfl,by simp⟩
theorem q4u:∀ {l:List Pc} {ts:List B},ts.length=l.length→(q0w l ts).length=l.length
 | [],[],_=>rfl
 | p::ps,b::bs,h=>by simp[q0w,q4u (l:=ps) (ts:=bs) (by simpa using h)]
 | [],_::_,h=>by simp at h
 | _::_,[],h=>by simp at h
theorem q7f:∀(l:List Pc) (m:List Pair) (s:B) (out:Bool),(turned m l s out).2.length=l.length
 | [],m,s,out=>rfl
 | p::ps,m,s,out=>by simp[turned,q7f ps]
theorem q7w:∀(l:List Pc) (ts:List B) (i:Nat),ts.length=l.length→i<l.length→q0w (l.take (i+1)) (ts.take (i+1))=q0w (l.take i) (ts.take i)++[⟨(l.getD i default).size,ts.getD i default⟩]
 | [],_,i,_,h=>by simp at h
 | _::_,[],i,h,_=>by simp at h
 | p::ps,b::bs,0,_,_=>by simp[q0w]
 | p::ps,b::bs,i+1,h1,h2=>by
   have:=q7w ps bs i (by simpa using h1) (by simpa using h2)
   simp[q0w,this]
structure PutI (m:List Pair) (s:Strm) (inn:B) (out:Bool) (mm:List Pair) (ts:List B) (i d:Nat):Prop where
 hk:s.parts.length≤i
 hi:i≤(pieces inn).length
 hp:PortsOk mm
 ml:mm.length≤m.length+i
 ht:s.parts.length+ts.length=i
 hd:d≤inn.length
 f:fits ((pieces inn).drop i) (inn.drop d)
 o:out=false→mm=m
 e:turned m ((pieces inn).drop s.parts.length) (inn.drop (doneP s.parts)) out=((turned mm ((pieces inn).drop i) (inn.drop d) out).1,ts++(turned mm ((pieces inn).drop i) (inn.drop d) out).2)
theorem q68:∀(l:List Pc) (ts:List B) (b:B),ts.length<l.length→q0w l (ts++[b])=q0w l ts++[⟨(l.getD ts.length default).size,b⟩]
 | [],ts,b,h=>by simp at h
 | p::ps,[],b,_=>by simp[q0w]
 | p::ps,t::ts,b,h=>by
   have:=q68 ps ts b (by simpa using h)
   simp[q0w,this]
theorem q37:∀(l:List Pc) (ts:List B),ts.length≤l.length→(q0w l ts).length=ts.length
 | [],ts,h=>by simp at h;subst h;rfl
 | p::ps,[],_=>rfl
 | p::ps,t::ts,h=>by simp[q0w,q37 ps ts (by simpa using h)]
theorem PutI.step {m:List Pair} {s:Strm} {inn:B} {out:Bool} {mm:List Pair} {ts:List B} {i d:Nat} (h:PutI m s inn out mm ts i d) (hi:i<(pieces inn).length) :
 d+((pieces inn).getD i default).size≤inn.length ∧
 PutI m s inn out (turn mm ((pieces inn).getD i default) ((inn.drop d).take ((pieces inn).getD i default).size) out).1 (ts++[(turn mm ((pieces inn).getD i default) ((inn.drop d).take ((pieces inn).getD i default).size) out).2]) (i+1) (d+((pieces inn).getD i default).size):=by
 have hg:(pieces inn).getD i default=(pieces inn)[i]:=by simp[List.getD,hi]
 obtain⟨h1,h2,h3,h4,h5,h6,h7,h8,h9⟩:=h
 rw[hg]
 rw[List.drop_eq_getElem_cons hi] at h7 h9
 generalize (pieces inn)[i]=q at *
 obtain⟨f1,f2⟩:=h7
 rw[List.length_drop] at f1
 have htl:=qf2 mm q ((inn.drop d).take q.size) out
 refine⟨by omega,by omega,by omega,h3.turn q _ out,by omega,by simp;omega,by omega,by rwa [List.drop_drop] at f2,λhf=>by subst hf;exact h8 rfl, ?_⟩
 rw[h9]
 simp only[turned,List.drop_drop,List.append_assoc,List.singleton_append]
theorem PutI.init {m:List Pair} {s:Strm} {x:B} {out:Bool} (hm:PortsOk m) (hs:strmOk s=true):PutI m s (s.inn++x) out m [] s.parts.length (doneP s.parts):=by
 obtain⟨f1,f2,f3,f4⟩:=qba hs x
 exact⟨Nat.le_refl _,f1,hm,by omega,by simp,f3,f4,λ_=>rfl,by simp⟩
theorem PutI.done {m:List Pair} {s:Strm} {inn:B} {out:Bool} {mm:List Pair} {ts:List B} {d:Nat} (h:PutI m s inn out mm ts (pieces inn).length d) :
 turned m ((pieces inn).drop s.parts.length) (inn.drop (doneP s.parts)) out=(mm,ts):=by
 rw[h.e,List.drop_length];simp[turned]
theorem qfh {m:List Pair} {s:Strm} {n:Int} {t:B} {out:Bool} {mm:List Pair} {ts:List B} {d:Nat} (hb:(q0b s.inn n t).2=true) (h:PutI m s (q0b s.inn n t).1 out mm ts (pieces (q0b s.inn n t).1).length d) :
 put m s n t out=(mm,⟨(q0b s.inn n t).1,s.parts++q0w ((pieces (q0b s.inn n t).1).drop s.parts.length) ts⟩,true):=by
 simp[put,hb,h.done]
def ixI (o:Option Nat):Int:=match o with
 | some k=>k
 | none => -1
theorem q4t (f:Flw) (fs:List Flw) (i o:E):q0p (f::fs) i o=if f.ins=i∧f.out=o then some 0 else(q0p fs i o).map (·+1):=by
 unfold q0p
 rw[List.findIdx?_cons]
 by_cases h1:f.ins=i<;>by_cases h2:f.out=o<;>simp[h1,h2]
theorem qa2 (i o:E):q0p [] i o=none:=rfl
def q38 (i o:E) (f:Flw):Bool:=decide (f.ins=i)&&decide (f.out=o)
theorem q2z:∀ {fs:List Flw} {i o:E},q0p fs i o=none↔fs.any (q38 i o)=false
 | [],i,o=>by simp[qa2]
 | f::fs,i,o=>by
   rw[q4t]
   have:=q2z (fs:=fs) (i:=i) (o:=o)
   by_cases h:f.ins=i∧f.out=o
   ·rw[if_pos h];simp[q38,h]
   ·rw[if_neg h]
    have hs:q38 i o f=false:=by rw[q38,←Bool.decide_and];simpa using h
    simp[hs,this]
theorem q2k:∀ {fs:List Flw} {i o:E} {k:Nat},q0p fs i o=some k→∃f,fs[k]?=some f∧f.ins=i∧f.out=o∧(fs.take k).any (q38 i o)=false
 | [],i,o,k,h=>by simp[qa2] at h
 | f::fs,i,o,k,h=>by
   rw[q4t] at h
   by_cases hc:f.ins=i∧f.out=o
   ·rw[if_pos hc] at h;cases h;exact⟨f,rfl,hc.1,hc.2,rfl⟩
   ·rw[if_neg hc] at h
    cases hx:q0p fs i o with
    | none=>rw[hx] at h;cases h
    | some j =>
      rw[hx] at h;cases h
      obtain⟨g,h1,h2,h3,h4⟩:=q2k hx
      have hs:q38 i o f=false:=by rw[q38,←Bool.decide_and];simpa using hc
      exact⟨g,by simpa using h1,h2,h3,by simp[hs,h4]⟩
theorem qpz {o:Option Nat}:ixI o<0↔o=none:=by
 cases o with
 | none=>simp[ixI]
 | some k=>simp only[ixI,reduceCtorEq,iff_false];omega
theorem qbv {d:Door} {k:Nat} (h:k<d.flows.length):q7q d k=(d.map.any (λp=>decide (p.ins=d.flows[k].ins))&&d.flows[k].out.outside&&strmOk d.flows[k].up&&strmOk d.flows[k].down&&!(d.flows.take k).any (q38 d.flows[k].ins d.flows[k].out)):=by
 unfold q7q
 rw[zE h]
 rfl
theorem qhj {d:Door} {k:Nat} (h:k<d.flows.length) (hb:q7q d k=false):doorOk d=false:=by
 have:(List.range d.flows.length).all (q7q d)=false:=by
  rw[List.all_eq_false];exact⟨k,List.mem_range.2 h,by simp[hb]⟩
 simp[doorOk,this]
theorem q07 {d:Door}:doorOk d=true↔mapOk d.map=true∧d.flows.length≤4∧∀k,k<d.flows.length→q7q d k=true:=by
 simp[doorOk,List.all_eq_true,and_assoc]
def DB (d:Door):Prop:=d.map.length≤2000000∧d.flows.length≤2000000∧∀f∈d.flows,SB f.up∧SB f.down
theorem q8i {m:List Pair}:mapOk m=true↔m.length≤8∧∀(i:Nat) p,m[i]?=some p→p.port=10+(i:Int)∧p.ins.inside=true∧(m.take i).any (λq=>decide (q.ins=p.ins))=false:=by
 simp only[mapOk,Bool.and_eq_true,List.all_eq_true,List.mem_range,decide_eq_true_eq]
 constructor
 ·rintro⟨h1,h2⟩
  refine⟨h2,λi p hp=>?_⟩
  have hi:i<m.length:=(List.getElem?_eq_some_iff.1 hp).1
  have:=h1 i hi
  simp only[q4b,hp,Bool.and_eq_true,decide_eq_true_eq,Bool.not_eq_true'] at this
  exact⟨this.1.1,this.1.2,this.2⟩
 ·rintro⟨h1,h2⟩
  refine⟨λi hi=>?_,h1⟩
  obtain⟨a,b,c⟩:=h2 i m[i] (zE hi)
  simp only[q4b,zE hi,a,b,c]
  simp
theorem qic {m:List Pair} {e:E} (h:mapOk m=true) (he:e.inside=true):mapOk (mOut m e).1=true:=by
 unfold mOut
 split
 ·exact h
 ·rename_i hf
  split
  ·exact h
  ·rename_i hl
   rw[List.find?_eq_none] at hf
   obtain⟨h1,h2⟩:=q8i.1 h
   refine q8i.2 ⟨by simp;omega,λi p hp=>?_⟩
   by_cases hi:i<m.length
   ·rw[List.getElem?_append_left hi] at hp
    obtain⟨a,b,c⟩:=h2 i p hp
    refine⟨a,b, ?_⟩
    rw[List.take_append_of_le_length (by omega)]
    exact c
   ·have hil:=(List.getElem?_eq_some_iff.1 hp).1
    simp only[zA,zC,zN] at hil
    obtain rfl:i=m.length:=by omega
    rw[List.getElem?_append_right (Nat.le_refl _)] at hp
    simp only[Nat.sub_self,List.getElem?_cons_zero,zS] at hp
    subst hp
    refine⟨rfl,he, ?_⟩
    rw[List.take_left',List.any_eq_false]
    ·exact hf
    ·rfl
theorem q8w {m:List Pair} {e:E} (h:mapOk m=true) (hok:(mOut m e).2.2=true):(⟨9,(mOut m e).2.1⟩:E).door=true:=by
 rw[E.door_iff]
 unfold mOut at hok ⊢
 obtain⟨h1,h2⟩:=q8i.1 h
 split
 ·rename_i p hf
  have:=List.mem_of_find?_eq_some hf
  obtain⟨i,hi,rfl⟩:=List.mem_iff_getElem.1 this
  obtain⟨a,_,_⟩:=h2 i _ (zE hi)
  refine⟨rfl, ?_⟩
  simp only[a];omega
 ·split
  ·rename_i hf hl
   simp only[hf,if_pos hl] at hok
   cases hok
  ·refine⟨rfl, ?_⟩
   simp only;omega
theorem q6f {m:List Pair} {n:Int} {e:E} (h:mapOk m=true) (hi:q0j m n=some e):e.inside=true:=by
 unfold q0j at hi
 obtain⟨p,hp,rfl⟩:=Option.map_eq_some_iff.1 hi
 have:=List.mem_of_find?_eq_some hp
 obtain⟨i,hil,rfl⟩:=List.mem_iff_getElem.1 this
 exact(q5w h hil).2
theorem qj0 (e:E):(name e).all okB=true:=by
 simp only[name,List.all_cons,List.all_append,qil,List.all_nil];decide
theorem q4i {e:E} (h:e.inside=true):e.any=true:=by simp[E.any,h]
theorem q6r {e:E} (h:e.door=true):e.any=true:=by simp[E.any,h]
theorem q7j {m:List Pair} (h:mapOk m=true) (p:Pc) (s:B) (out:Bool):mapOk (turn m p s out).1=true:=by
 cases out
 ·exact h
 ·simp only[turn,cond_true,q0q]
  split
  ·rename_i hc
   rw[Bool.and_eq_true] at hc
   have:=qic h hc.2
   rcases hmo:mOut m p.e with⟨x,port,ok⟩
   rw[hmo] at this
   cases ok
   ·exact h
   ·exact this
  ·exact h
theorem qnu {m:List Pair} (h:mapOk m=true) (p:Pc) {s:B} (out:Bool) (hs:1≤s.length∧s.length≤6) (hok:s.all okB=true) :
 (1≤(turn m p s out).2.length∧(turn m p s out).2.length≤6)∧(turn m p s out).2.all okB=true:=by
 cases out
 ·simp only[turn,cond_false,q2j]
  split
  ·split
   ·rename_i e he
    have:=q5s (q4i (q6f h he))
    refine⟨?_,qj0 e⟩
    have hl:=qbf e
    split at this<;>omega
   ·exact⟨hs,hok⟩
  ·exact⟨hs,hok⟩
 ·simp only[turn,cond_true,q0q]
  split
  ·have hd:=q8w (e:=p.e) h
   rcases hmo:mOut m p.e with⟨x,port,ok⟩
   rw[hmo] at hd
   cases ok
   ·exact⟨hs,hok⟩
   ·have:=q5s (q6r (hd rfl))
    have hl:=qbf ⟨9,port⟩
    refine⟨?_,qj0 _⟩
    simp only at this ⊢
    split at this<;>omega
  ·exact⟨hs,hok⟩
theorem q8b {s:B} {n:Nat} (h:s.all okB=true):(s.take n).all okB=true:=by
 rw[List.all_eq_true] at h ⊢;exact λb hb=>h b (List.mem_of_mem_take hb)
theorem q50 {s:B} {n:Nat} (h:s.all okB=true):(s.drop n).all okB=true:=by
 rw[List.all_eq_true] at h ⊢;exact λb hb=>h b (List.mem_of_mem_drop hb)
theorem q80:∀ {l:List Pc} {m:List Pair} {s:B} {out:Bool},mapOk m=true→mapOk (turned m l s out).1=true
 | [],m,s,out,h=>h
 | p::ps,m,s,out,h=>by
   simp only[turned];exact q80 (q7j h _ _ _)
theorem qae:∀ {l:List Pc} {m:List Pair} {s:B} {out:Bool},mapOk m=true→fits l s→(∀q∈l,1≤q.size∧q.size≤6)→s.all okB=true →
 ∀b∈(turned m l s out).2,(1≤b.length∧b.length≤6)∧b.all okB=true
 | [],m,s,out,_,_,_,_=>by simp[turned]
 | p::ps,m,s,out,h,hf,hq,hs=>by
   obtain⟨f1,f2⟩:=hf
   have hp:=hq p (List.mem_cons_self ..)
   simp only[turned]
   intro b hb
   rcases List.mem_cons.1 hb with rfl|hb
   ·exact qnu h p out (by rw[List.length_take];omega) (q8b hs)
   ·exact qae (q7j h _ _ _) f2 (λq hq'=>hq q (List.mem_cons_of_mem _ hq')) (q50 hs) b hb
theorem qal:∀ {l:List Pc} {ts:List B},ts.length=l.length→(∀b∈ts,(1≤b.length∧b.length≤6)∧b.all okB=true)→q0x (q0w l ts) l=true
 | [],[],_,_=>rfl
 | p::ps,b::bs,hl,h=>by
   have hb:=h b (List.mem_cons_self ..)
   simp only[q0w,q0x,Bool.and_eq_true]
   refine⟨?_,qal (by simpa using hl) λx hx=>h x (List.mem_cons_of_mem _ hx)⟩
   rw[q2n]
   refine⟨rfl,hb.1, ?_⟩
   simp only[txOk,Bool.and_eq_true,decide_eq_true_eq]
   exact⟨hb.2,by omega⟩
 | [],_::_,hl,_=>by simp at hl
 | _::_,[],hl,_=>by simp at hl
theorem q97:∀ {a:List Part} {c:List Pc} {b:List Part} {d:List Pc},q0x a c=true→q0x b d=true→q0x (a++b) (c++d)=true
 | [],[],b,d,_,h=>h
 | x::xs,y::ys,b,d,h1,h2=>by
   simp only[q0x,Bool.and_eq_true] at h1
   simp only[List.cons_append,q0x,Bool.and_eq_true]
   exact⟨h1.1,q97 h1.2 h2⟩
 | [],_::_,b,d,h,_=>by simp[q0x] at h
 | _::_,[],b,d,h,_=>by simp[q0x] at h
theorem qcq {c:B} {n:Int} {t:B} (hc:txOk c=true) (ht:txOk t=true) (hn:0≤n) (h:(q0b c n t).2=true):txOk (q0b c n t).1=true:=by
 simp only[txOk,Bool.and_eq_true,decide_eq_true_eq] at hc ht ⊢
 unfold q0b at h ⊢
 split
 ·exact hc
 ·rename_i h1
  simp only[Bool.or_eq_true,decide_eq_true_eq,not_or,Int.not_lt,gt_iff_lt] at h1
  split
  ·exact hc
  ·refine⟨?_, ?_⟩
   ·simp only[List.all_append,hc.1,q50 ht.1,Bool.and_self]
   ·simp only[zA,List.length_drop];omega
theorem q4j {m:List Pair} {s:Strm} {n:Int} {t:B} {out:Bool} (hm:mapOk m=true) (hs:strmOk s=true) (ht:txOk t=true) (hn:0≤n) :
 mapOk (put m s n t out).1=true∧strmOk (put m s n t out).2.1=true:=by
 unfold put
 split
 ·rename_i hb
  refine⟨q80 hm, ?_⟩
  have hs0:txOk s.inn=true∧q0x s.parts (pieces s.inn)=true:=by simpa[strmOk] using hs
  have htx:=qcq hs0.1 ht hn hb
  obtain⟨x,hx,_⟩:=q78 hb
  obtain⟨f1,f2,f3,f4⟩:=qba hs x
  rw[←hx] at f1 f2 f3 f4
  simp only[strmOk,htx,Bool.true_and]
  have hq:∀q∈(pieces (q0b s.inn n t).1).drop s.parts.length,1≤q.size∧q.size≤6:=λq hq=>q7x _ q (List.mem_of_mem_drop hq)
  have hpc:pieces (q0b s.inn n t).1=pieces s.inn++(pieces (q0b s.inn n t).1).drop s.parts.length:=by
   have h1:=q7l s.inn x
   rw[←hx] at h1
   rw[f2,h1,hx]
  conv=>lhs;arg 2;rw[hpc]
  refine q97 hs0.2 (qal (q7f ..) ?_)
  refine qae hm f4 hq (q50 ?_)
  simp only[txOk,Bool.and_eq_true] at htx
  exact htx.1
 ·exact⟨hm,hs⟩
theorem q1v {l:List Part} (i:Int):0≤q0s l i∧q0s l i≤((l.flatMap (·.text)).length:Int):=by
 induction l generalizing i with
 | nil=>simp[q0s]
 | cons p l ih =>
   have:=ih (i - p.size)
   simp only[q0s,List.flatMap_cons,zA]
   split<;>omega
theorem q3f {s:Strm} (h:StrB s):(sOut s).length≤240:=by
 have h1:=qjt (l:=s.parts) (λp hp=>(h.2.2 p hp).2.2.1) s.parts.length
 rw[List.take_length] at h1
 have:=h.2.1
 show(qo7 s.parts).length≤240
 omega
def toR (was is:Strm) (p:Pk):Int:=if was.inn.length<is.inn.length then((sOut is).length:Int) else q0s is.parts (min (p.at_+p.text.length) is.inn.length)
theorem q9s (was is:Strm) (p:Pk):0≤toR was is p∧toR was is p≤(sOut is).length:=by
 unfold toR
 split
 ·omega
 ·exact q1v _
theorem qav (m:List Pair) (s:Strm) (n:Int) (t:B) (out:Bool):s.inn.length≤(put m s n t out).2.1.inn.length:=by
 unfold put
 split
 ·rename_i h
  obtain⟨x,hx,_⟩:=q78 h
  simp only[hx,zA];omega
 ·exact Nat.le_refl _
def qb6 (was is:Strm) (p:Pk):Pk×Bool :=
 if q0s is.parts p.at_≥toR was is p then(.zero,false)
 else({ p with at_:=q0s is.parts p.at_,text:=((sOut is).take (toR was is p).toNat).drop (q0s is.parts p.at_).toNat },decide ((((sOut is).take (toR was is p).toNat).drop (q0s is.parts p.at_).toNat).length≤40))
theorem qb1 (was is:Strm) (p:Pk):q1h was is p=if(qb6 was is p).2 then some (qb6 was is p).1 else none:=by
 have h1:=q1v (l:=is.parts) p.at_
 have h2:=q9s was is p
 have h3:q1h was is p=if q0s is.parts p.at_≥toR was is p then none else if toR was is p - q0s is.parts p.at_≤40 then some { p with at_:=q0s is.parts p.at_,text:=((sOut is).take (toR was is p).toNat).drop (q0s is.parts p.at_).toNat } else none:=rfl
 rw[h3]
 unfold qb6
 by_cases hc:q0s is.parts p.at_≥toR was is p
 ·rw[if_pos hc,if_pos hc];rfl
 ·rw[if_neg hc,if_neg hc]
  have hl:(((sOut is).take (toR was is p).toNat).drop (q0s is.parts p.at_).toNat).length=(toR was is p - q0s is.parts p.at_).toNat:=by
   rw[List.length_drop,List.length_take];omega
  simp only[hl]
  by_cases h4:toR was is p - q0s is.parts p.at_≤40
  ·rw[if_pos h4,if_pos (by simp;omega)]
  ·rw[if_neg h4,if_neg (by simp;omega)]
def q1t (was is:Strm) (p:Pk):Pk×Bool :=
 ({ p with at_:=q0s is.parts p.at_,text:=((sOut is).take (max (toR was is p) (q0s is.parts p.at_)).toNat).drop (q0s is.parts p.at_).toNat },
   q0g (((sOut is).take (max (toR was is p) (q0s is.parts p.at_)).toNat).drop (q0s is.parts p.at_).toNat).length 1 40)
theorem q8e (was is:Strm) (p:Pk):q1h was is p=if(q1t was is p).2 then some (q1t was is p).1 else none:=by
 have h1:=q1v (l:=is.parts) p.at_
 have h2:=q9s was is p
 have h3:q1h was is p=if q0s is.parts p.at_≥toR was is p then none else if toR was is p - q0s is.parts p.at_≤40 then some { p with at_:=q0s is.parts p.at_,text:=((sOut is).take (toR was is p).toNat).drop (q0s is.parts p.at_).toNat } else none:=rfl
 rw[h3]
 unfold q1t
 have hl:(((sOut is).take (max (toR was is p) (q0s is.parts p.at_)).toNat).drop (q0s is.parts p.at_).toNat).length=(max (toR was is p) (q0s is.parts p.at_) - q0s is.parts p.at_).toNat:=by
  rw[List.length_drop,List.length_take]
  have h5:q0s is.parts p.at_≤((sOut is).length:Int):=h1.2
  omega
 simp only[hl]
 by_cases hc:q0s is.parts p.at_≥toR was is p
 ·rw[if_pos hc,if_neg]
  rw[within_iff];omega
 ·rw[if_neg hc]
  have hmx:max (toR was is p) (q0s is.parts p.at_)=toR was is p:=by omega
  by_cases h4:toR was is p - q0s is.parts p.at_≤40
  ·rw[if_pos h4,if_pos (by rw[within_iff];omega),hmx]
  ·rw[if_neg h4,if_neg (by rw[within_iff];omega)]
def q0u (d:Door) (i o:E):Door×Nat×Bool:=match q43 d i o with
 | some (x,k)=>(x,k,true)
 | none=>(d,0,false)
theorem q5d {d:Door} {i o:E} {k:Nat} (h:q0p d.flows i o=some k):q0u d i o=(d,k,true):=by
 simp[q0u,q43,h]
theorem qbe {d:Door} {i o:E} (h:q0p d.flows i o=none) (h2:(mOut d.map i).2.2=false):q0u d i o=(d,0,false):=by
 rcases hm:mOut d.map i with⟨m,n,ok⟩
 rw[hm] at h2
 simp only at h2
 subst h2
 simp[q0u,q43,h,hm]
theorem q5g {d:Door} {i o:E} (h:q0p d.flows i o=none) (h2:(mOut d.map i).2.2=true) (h3:d.flows.length<4):q0u d i o=(⟨(mOut d.map i).1,d.flows++[⟨i,o,.zero,.zero⟩]⟩,d.flows.length,true):=by
 rcases hm:mOut d.map i with⟨m,n,ok⟩
 rw[hm] at h2
 simp only at h2
 subst h2
 simp[q0u,q43,h,hm,h3]
structure OpenedP (d:Door) (i o:E) (x:Door) (k:Nat):Prop where
 map:mapOk x.map=true
 port:portOf x.map i≠0
 len:x.flows.length≤d.flows.length+1
 kl:k<x.flows.length
 flow:(x.flows.getD k default).ins=i∧(x.flows.getD k default).out=o
 up:strmOk (x.flows.getD k default).up=true
 down:strmOk (x.flows.getD k default).down=true
 ok:doorOk x=true
theorem q3m:strmOk .zero=true:=by decide
theorem q77 {m:List Pair} (hm:mapOk m=true) (e:E):portOf m e≠0↔m.any (λq=>decide (q.ins=e))=true :=
 qk3 λp hp=>((q0d hm).1 p hp).1
theorem qet {m:List Pair} {e f:E} (h:m.any (λq=>decide (q.ins=f))=true):(mOut m e).1.any (λq=>decide (q.ins=f))=true:=by
 unfold mOut
 split
 ·exact h
 ·split
  ·exact h
  ·simp only[List.any_append,h,Bool.true_or]
theorem qbz {m:List Pair} {e:E} (h:(mOut m e).2.2=true):(mOut m e).1.any (λq=>decide (q.ins=e))=true:=by
 unfold mOut at h ⊢
 split
 ·rename_i p hf
  rw[List.any_eq_true]
  have:=List.find?_some hf
  exact⟨p,List.mem_of_find?_eq_some hf,this⟩
 ·rename_i hf
  split
  ·rename_i hl;simp only[hf,if_pos hl] at h;cases h
  ·simp
theorem q1d {d:Door} (h:doorOk d=true) {k:Nat} {f:Flw} (hf:d.flows[k]?=some f):d.map.any (λp=>decide (p.ins=f.ins))=true∧f.out.outside=true∧strmOk f.up=true∧strmOk f.down=true∧(d.flows.take k).any (q38 f.ins f.out)=false:=by
 obtain⟨_,_,h3⟩:=q07.1 h
 have hk:k<d.flows.length:=(List.getElem?_eq_some_iff.1 hf).1
 have h4:=h3 k hk
 rw[qbv hk] at h4
 obtain rfl:d.flows[k]=f:=by rw[zE hk] at hf;exact Option.some.inj hf
 simp only[Bool.and_eq_true,Bool.not_eq_true'] at h4
 exact⟨h4.1.1.1.1,h4.1.1.1.2,h4.1.1.2,h4.1.2,h4.2⟩
theorem qc8 {m:List Pair} {fs:List Flw} (hm:mapOk m=true) (hl:fs.length≤4) (h:∀k f,fs[k]?=some f→m.any (λp=>decide (p.ins=f.ins))=true∧f.out.outside=true∧strmOk f.up=true∧strmOk f.down=true∧(fs.take k).any (q38 f.ins f.out)=false):doorOk ⟨m,fs⟩=true:=by
 refine q07.2 ⟨hm,hl,λk hk=>?_⟩
 rw[qbv (d:=⟨m,fs⟩) hk]
 obtain⟨a,b,c,d,e⟩:=h k _ (zE hk)
 simp[a,b,c,d,e]
theorem q2q {d:Door} {i o:E} (hd:doorOk d=true) (hi:i.inside=true) (ho:o.outside=true) (hok:(q0u d i o).2.2=true):OpenedP d i o (q0u d i o).1 (q0u d i o).2.1:=by
 obtain⟨hm,hl,h3⟩:=q07.1 hd
 cases hf:q0p d.flows i o with
 | some k =>
   rw[q5d hf]
   obtain⟨f,h1,rfl,rfl,h4⟩:=q2k hf
   obtain⟨a,b,c,e,g⟩:=q1d hd h1
   have hk:k<d.flows.length:=(List.getElem?_eq_some_iff.1 h1).1
   have hg:d.flows.getD k default=f:=by simp[List.getD,h1]
   exact⟨hm,(q77 hm _).2 a,by simp,hk,by rw[hg];exact⟨rfl,rfl⟩,by rw[hg];exact c,by rw[hg];exact e,hd⟩
 | none =>
   cases h2:(mOut d.map i).2.2 with
   | false=>rw[qbe hf h2] at hok;cases hok
   | true =>
     by_cases h4:d.flows.length<4
     ·rw[q5g hf h2 h4]
      have hm':=qic hm hi
      have ha:=qbz h2
      have hg:(d.flows++[Flw.mk i o .zero .zero]).getD d.flows.length default=⟨i,o,.zero,.zero⟩:=by simp[List.getD]
      refine⟨hm',(q77 hm' _).2 ha,by simp,by simp,by rw[hg];exact⟨rfl,rfl⟩,by rw[hg];exact q3m,by rw[hg];exact q3m, ?_⟩
      refine qc8 hm' (by simp;omega) λk f hk=>?_
      by_cases hkl:k<d.flows.length
      ·rw[List.getElem?_append_left hkl] at hk
       obtain⟨a,b,c,e,g⟩:=q1d hd hk
       refine⟨qet a,b,c,e, ?_⟩
       rw[List.take_append_of_le_length (by omega)];exact g
      ·have:=(List.getElem?_eq_some_iff.1 hk).1
       simp only[zA,zC,zN] at this
       obtain rfl:k=d.flows.length:=by omega
       rw[List.getElem?_append_right (Nat.le_refl _)] at hk
       simp only[Nat.sub_self,List.getElem?_cons_zero,zS] at hk
       subst hk
       refine⟨ha,ho,q3m,q3m, ?_⟩
       rw[List.take_left' rfl]
       exact q2z.1 hf
     ·exfalso
      rcases hmo:mOut d.map i with⟨m,n,ok⟩
      rw[hmo] at h2
      simp only at h2
      subst h2
      simp[q0u,q43,hf,hmo,h4] at hok
theorem qpr {d:Door} {m:List Pair} {k:Nat} {f g:Flw} (hd:doorOk d=true) (hf:d.flows[k]?=some f) (hm:mapOk m=true) (hsub:∀e,d.map.any (λp=>decide (p.ins=e))=true→m.any (λp=>decide (p.ins=e))=true)
 (h1:g.ins=f.ins) (h2:g.out=f.out) (h3:strmOk g.up=true) (h4:strmOk g.down=true):doorOk ⟨m,d.flows.set k g⟩=true:=by
 obtain⟨_,hl,_⟩:=q07.1 hd
 refine qc8 hm (by simpa using hl) λj x hj=>?_
 have hsame:∀j i o,((d.flows.set k g).take j).any (q38 i o)=(d.flows.take j).any (q38 i o):=λj i o=>by
  have hkl:k<d.flows.length:=(List.getElem?_eq_some_iff.1 hf).1
  have e1:(d.flows.set k g).map (q38 i o)=d.flows.map (q38 i o):=by
   rw[List.map_set]
   have:q38 i o g=(d.flows.map (q38 i o))[k]'(by simpa using hkl):=by
    rw[List.getElem_map]
    have hfe:d.flows[k]=f:=by rw[zE hkl] at hf;exact Option.some.inj hf
    rw[hfe,q38,q38,h1,h2]
   rw[this,List.set_getElem_self]
  have e2:∀l:List Flw,(l.take j).any (q38 i o)=((l.map (q38 i o)).take j).any id:=λl=>by rw[←List.map_take,List.any_map];rfl
  rw[e2,e1,←e2]
 rw[hsame]
 by_cases hjk:j=k
 ·subst hjk
  have hkl:j<d.flows.length:=(List.getElem?_eq_some_iff.1 hf).1
  rw[List.getElem?_set_self hkl] at hj
  cases hj
  obtain⟨a,b,c,e,q⟩:=q1d hd hf
  rw[h1,h2]
  exact⟨hsub _ a,b,h3,h4,q⟩
 ·rw[List.getElem?_set_ne (by omega)] at hj
  obtain⟨a,b,c,e,q⟩:=q1d hd hj
  exact⟨hsub _ a,b,c,e,q⟩
def Flw.at (d:Door) (k:Nat):Flw:=d.flows.getD k default
def q66 (x:Door) (k:Nat) (p:Pk):Door×Option Pk :=
 if p.kind=2 then
  if p.at_>(sOut (Flw.at x k).down).length then(x,none) else(x,some ⟨2,⟨9,portOf x.map p.frm⟩,p.to,backP (Flw.at x k).down.parts p.at_,[]⟩)
 else if(put x.map (Flw.at x k).up p.at_ p.text true).2.2=false then(x,none)
 else(⟨(put x.map (Flw.at x k).up p.at_ p.text true).1,x.flows.set k { Flw.at x k with up:=(put x.map (Flw.at x k).up p.at_ p.text true).2.1 }⟩,
  (q1h (Flw.at x k).up (put x.map (Flw.at x k).up p.at_ p.text true).2.1 p).map λq=>{ q with frm:=⟨9,portOf x.map p.frm⟩ })
theorem q45 {d:Door} {p:Pk} (h:(q0u d p.frm p.to).2.2=false):q5r d p=(d,none):=by
 unfold q0u at h
 cases ho:q43 d p.frm p.to with
 | none=>simp[q5r,ho]
 | some x=>rw[ho] at h;cases h
theorem q2f {d:Door} {p:Pk} (h:(q0u d p.frm p.to).2.2=true) (hk:(q0u d p.frm p.to).2.1<(q0u d p.frm p.to).1.flows.length) :
 q5r d p=q66 (q0u d p.frm p.to).1 (q0u d p.frm p.to).2.1 p:=by
 unfold q0u at h hk ⊢
 cases ho:q43 d p.frm p.to with
 | none=>rw[ho] at h;cases h
 | some x =>
   obtain⟨x,k⟩:=x
   rw[ho] at hk
   simp only at hk ⊢
   have hf:x.flows[k]?=some (Flw.at x k):=by simp[Flw.at,List.getD,hk]
   simp only[q5r,ho,hf,q66]
   split
   ·rfl
   ·rcases hp:put x.map (Flw.at x k).up p.at_ p.text true with⟨m,s,ok⟩
    cases ok<;>simp
def inK (x:Door) (k:Nat) (i:E) (p:Pk):Door×Option Pk :=
 if p.kind=2 then
  if p.at_>(sOut (Flw.at x k).up).length then(x,none) else(x,some ⟨2,p.frm,i,backP (Flw.at x k).up.parts p.at_,[]⟩)
 else if(put x.map (Flw.at x k).down p.at_ p.text false).2.2=false then(x,none)
 else(⟨x.map,x.flows.set k { Flw.at x k with down:=(put x.map (Flw.at x k).down p.at_ p.text false).2.1 }⟩,
  (q1h (Flw.at x k).down (put x.map (Flw.at x k).down p.at_ p.text false).2.1 p).map λq=>{ q with to:=i })
theorem q46 {d:Door} {p:Pk} (h:q0j d.map p.to.p=none):dIn d p=(d,none):=by simp[dIn,h]
theorem q3p {d:Door} {p:Pk} {i:E} (h:q0j d.map p.to.p=some i) (h2:q0p d.flows i p.frm=none):dIn d p=(d,none):=by simp[dIn,h,h2]
theorem q39 {d:Door} {p:Pk} {i:E} {k:Nat} (h:q0j d.map p.to.p=some i) (h2:q0p d.flows i p.frm=some k):k<d.flows.length∧dIn d p=inK d k i p:=by
 obtain⟨f,h3,_⟩:=q2k h2
 have hk:k<d.flows.length:=(List.getElem?_eq_some_iff.1 h3).1
 refine⟨hk, ?_⟩
 have hf:d.flows[k]?=some (Flw.at d k):=by simp[Flw.at,List.getD,hk]
 simp only[dIn,h,h2,hf,inK]
 split
 ·rfl
 ·rcases hp:put d.map (Flw.at d k).down p.at_ p.text false with⟨m,s,ok⟩
  cases ok<;>simp
structure PkP (p:Pk):Prop where
 at_:0≤p.at_∧p.at_≤999
 len:p.text.length≤40
 tx:p.kind=2∨txOk p.text=true
 ack:p.kind=2→p.text=[]
 kd:p.kind=1∨p.kind=2
theorem qk4 {p:Pk} (h:q48 p=true):PkP p:=by
 simp only[q48,Bool.and_eq_true,Bool.or_eq_true,decide_eq_true_eq,within_iff] at h
 obtain⟨⟨_,h1⟩,h2|h2⟩:=h
 ·exact⟨⟨h1.1,by omega⟩,q86 h2.1.2,.inr h2.1.2,λh=>(by rw[h2.1.1] at h;cases h),.inl h2.1.1⟩
 ·have:p.text=[]:=by simpa using h2.2
  exact⟨⟨h1.1,by omega⟩,by simp[this],.inl h2.1,λ_=>this,.inr h2.1⟩
theorem qro {m:List Pair} {s:Strm} {n:Int} {t:B} {out:Bool}:∀e,m.any (λp=>decide (p.ins=e))=true→(put m s n t out).1.any (λp=>decide (p.ins=e))=true:=by
 intro e h
 unfold put
 split
 ·have key:∀(l:List Pc) (m:List Pair) (s:B),m.any (λp=>decide (p.ins=e))=true→(turned m l s out).1.any (λp=>decide (p.ins=e))=true:=by
   intro l
   induction l with
   | nil=>intro m s h;exact h
   | cons q l ih =>
     intro m s h
     simp only[turned]
     refine ih _ _ ?_
     cases out
     ·exact h
     ·simp only[turn,cond_true,q0q]
      split
      ·have:=qet (e:=q.e) h
       rcases hmo:mOut m q.e with⟨x,port,ok⟩
       rw[hmo] at this
       cases ok
       ·exact h
       ·exact this
      ·exact h
  exact key _ _ _ h
 ·exact h
theorem qk1 {x:Door} {k:Nat} {p:Pk} (hd:doorOk x=true) (hk:k<x.flows.length) (hp:PkP p):doorOk (q66 x k p).1=true∧(q66 x k p).1.flows.length=x.flows.length:=by
 have hf:x.flows[k]?=some (Flw.at x k):=by simp[Flw.at,List.getD,hk]
 obtain⟨_,_,hu,hdn,_⟩:=q1d hd hf
 unfold q66
 split
 ·split<;>exact⟨hd,rfl⟩
 ·rename_i hkd
  split
  ·exact⟨hd,rfl⟩
  ·obtain⟨p1,p2⟩:=q4j (out:=true) (q07.1 hd).1 hu (hp.tx.resolve_left hkd) hp.at_.1
   exact⟨qpr hd hf p1 qro rfl rfl p2 hdn,by simp⟩
theorem qq1 {x:Door} {k:Nat} {i:E} {p:Pk} (hd:doorOk x=true) (hk:k<x.flows.length) (hp:PkP p):doorOk (inK x k i p).1=true∧(inK x k i p).1.flows.length=x.flows.length∧(inK x k i p).1.map=x.map:=by
 have hf:x.flows[k]?=some (Flw.at x k):=by simp[Flw.at,List.getD,hk]
 obtain⟨_,_,hu,hdn,_⟩:=q1d hd hf
 unfold inK
 split
 ·split<;>exact⟨hd,rfl,rfl⟩
 ·rename_i hkd
  split
  ·exact⟨hd,rfl,rfl⟩
  ·obtain⟨p1,p2⟩:=q4j (out:=false) (q07.1 hd).1 hdn (hp.tx.resolve_left hkd) hp.at_.1
   exact⟨qpr hd hf (q07.1 hd).1 (λe h=>h) rfl rfl hu p2,by simp,rfl⟩
theorem qng {d:Door} {i o:E} (h:(q0u d i o).2.2=false):(q0u d i o).1=d:=by
 unfold q0u at h ⊢
 cases ho:q43 d i o with
 | none=>rfl
 | some x=>rw[ho] at h;cases h
theorem qqd {d:Door} {p:Pk} (hd:doorOk d=true) (hp:PkP p) (h1:p.outward=true):doorOk (q5r d p).1=true∧(q5r d p).1.flows.length≤d.flows.length+1:=by
 simp only[Pk.outward,Bool.and_eq_true] at h1
 cases ho:(q0u d p.frm p.to).2.2 with
 | false=>rw[q45 ho];exact⟨hd,by simp⟩
 | true =>
   have hx:=q2q hd h1.1 h1.2 ho
   rw[q2f ho hx.kl]
   have:=qk1 hx.ok hx.kl hp
   exact⟨this.1,by rw[this.2];exact hx.len⟩
theorem j0b {d:Door} {p:Pk} (hd:doorOk d=true) (hp:PkP p):doorOk (dIn d p).1=true∧(dIn d p).1.flows.length=d.flows.length:=by
 cases h1:q0j d.map p.to.p with
 | none=>rw[q46 h1];exact⟨hd,rfl⟩
 | some i =>
   cases h2:q0p d.flows i p.frm with
   | none=>rw[q3p h1 h2];exact⟨hd,rfl⟩
   | some k =>
     obtain⟨hk,he⟩:=q39 h1 h2
     rw[he]
     have:=qq1 (i:=i) hd hk hp
     exact⟨this.1,this.2.1⟩
theorem qbq {d:Door} {p:Pk} (hd:doorOk d=true) (hp:PkP p):doorOk (dPass d p).1=true∧(dPass d p).1.flows.length≤d.flows.length+1:=by
 unfold dPass
 split
 ·rename_i h;exact qqd hd hp h
 ·split
  ·have:=j0b hd hp;exact⟨this.1,by omega⟩
  ·exact⟨hd,by simp⟩
theorem qcl (was is:Strm) (p:Pk) (i:E):q1h was is { p with to:=i }=(q1h was is p).map λq=>{ q with to:=i }:=by
 have h3:∀p:Pk,q1h was is p=if q0s is.parts p.at_≥toR was is p then none else if toR was is p - q0s is.parts p.at_≤40 then some { p with at_:=q0s is.parts p.at_,text:=((sOut is).take (toR was is p).toNat).drop (q0s is.parts p.at_).toNat } else none:=λp=>rfl
 rw[h3,h3]
 have:toR was is { p with to:=i }=toR was is p:=rfl
 rw[this]
 simp only
 split
 ·rfl
 ·split<;>rfl
theorem q9p (was is:Strm) (p:Pk) (i:E):q1h was is { p with frm:=i }=(q1h was is p).map λq=>{ q with frm:=i }:=by
 have h3:∀p:Pk,q1h was is p=if q0s is.parts p.at_≥toR was is p then none else if toR was is p - q0s is.parts p.at_≤40 then some { p with at_:=q0s is.parts p.at_,text:=((sOut is).take (toR was is p).toNat).drop (q0s is.parts p.at_).toNat } else none:=λp=>rfl
 rw[h3,h3]
 have:toR was is { p with frm:=i }=toR was is p:=rfl
 rw[this]
 simp only
 split
 ·rfl
 ·split<;>rfl
theorem qfc (m:List Pair) (s:Strm) (n:Int) (t:B):(put m s n t false).1=m:=by
 have key:∀(l:List Pc) (m:List Pair) (s:B),(turned m l s false).1=m:=by
  intro l
  induction l with
  | nil=>intro m s;rfl
  | cons q l ih=>intro m s;simp only[turned];rw[ih];rfl
 unfold put
 split
 ·exact key _ _ _
 ·rfl
theorem q0e {c:Conv}:convOk c=true↔(c.ins.inside=true∧c.out.outside=true∧q56 c.up=true∧q56 c.down=true∧qzn c.up=true)∧(0≤c.upAck∧c.upAck≤c.up.length)∧(0≤c.downAck∧c.downAck≤c.down.length)∧txOk c.upGot=true∧txOk c.downGot=true:=by
 unfold convOk q1o
 split
 ·rename_i h
  simp only[Bool.and_eq_true] at h
  simp[within_iff,h,and_assoc]
 ·rename_i h
  simp only[Bool.and_eq_true,not_and] at h
  simp only[Option.isSome_none,Bool.false_and,Bool.false_eq_true,false_iff]
  rintro⟨⟨a,b,c,d,e⟩,_⟩
  exact h ⟨⟨⟨a,b⟩,c⟩,d⟩ e
theorem q2y {t:B} (h:q56 t=true):t.length≤24∧txOk t=true∧q6a t=0:=by
 simpa[q56,and_assoc] using h
structure CvB (c:Conv):Prop where
 up:c.up.length≤24
 down:c.down.length≤24
 upGot:c.upGot.length≤40
 downGot:c.downGot.length≤40
 upAck:0≤c.upAck∧c.upAck≤24
 downAck:0≤c.downAck∧c.downAck≤24
theorem q20 {c:Conv} (h:convOk c=true):CvB c:=by
 obtain⟨⟨_,_,h3,h4,_⟩,h6,h7,h8,h9⟩:=q0e.1 h
 have:=(q2y h3).1
 have:=(q2y h4).1
 exact⟨by omega,by omega,q86 h8,q86 h9,by omega,by omega⟩
theorem q1y {e:E} (h:e.outside=true):e.inside=false:=by
 cases hi:e.inside with
 | false=>rfl
 | true=>have:=E.inside_iff.1 hi;have:=E.outside_iff.1 h;omega
theorem qec {e:E} (h:e.door=true):e.inside=false:=by
 cases hi:e.inside with
 | false=>rfl
 | true=>have:=E.inside_iff.1 hi;have:=E.door_iff.1 h;omega
structure NetP (cs:List Conv) (p:Pk):Prop where
 pk:PkP p
 c:p.frm.inside=true→∃c∈cs,p.frm=c.ins∧p.to=c.out
structure WI (w:World):Prop where
 cv:∀c∈w.convs,convOk c=true
 cl:w.convs.length≤2
 door:doorOk w.door=true
 fl:∀f∈w.door.flows,∃c∈w.convs,f.ins=c.ins∧f.out=c.out
 nl:w.nets.length≤10
 net:∀p∈w.nets,NetP w.convs p
theorem qoy {cs:List Conv} {fs:List Flw} (hl:cs.length≤2) (h:∀f∈fs,∃c∈cs,f.ins=c.ins∧f.out=c.out)
 (hd:∀(j k:Nat) f g,j<k→fs[j]?=some f→fs[k]?=some g→¬(f.ins=g.ins∧f.out=g.out)):fs.length≤2:=by
 match fs,cs,hl with
 | [],_,_=>simp
 | [_],_,_=>simp
 | [_,_],_,_=>simp
 | a::b::c::r,cs,hl =>
   exfalso
   have h1:=hd 0 1 a b (by omega) rfl rfl
   have h2:=hd 0 2 a c (by omega) rfl rfl
   have h3:=hd 1 2 b c (by omega) rfl rfl
   obtain⟨x,hx,x1,x2⟩:=h a (by simp)
   obtain⟨y,hy,y1,y2⟩:=h b (by simp)
   obtain⟨z,hz,z1,z2⟩:=h c (by simp)
   match cs,hl with
   | [],_=>cases hx
   | [u],_ =>
     simp only[List.mem_singleton] at hx hy hz
     subst hx;subst hy;subst hz
     exact h1 ⟨x1.trans y1.symm,x2.trans y2.symm⟩
   | [u,v],_ =>
     simp only[List.mem_cons,List.not_mem_nil,or_false] at hx hy hz
     rcases hx with rfl|rfl<;>rcases hy with rfl|rfl<;>rcases hz with rfl|rfl<;>first
      | exact h1 ⟨x1.trans y1.symm,x2.trans y2.symm⟩
      | exact h2 ⟨x1.trans z1.symm,x2.trans z2.symm⟩
      | exact h3 ⟨y1.trans z1.symm,y2.trans z2.symm⟩
theorem q3x {d:Door} (h:doorOk d=true) (j k:Nat) (f g:Flw) (hjk:j<k) (hf:d.flows[j]?=some f) (hg:d.flows[k]?=some g):¬(f.ins=g.ins∧f.out=g.out):=by
 obtain⟨_,_,_,_,ha⟩:=q1d h hg
 rintro⟨e1,e2⟩
 have hm:f∈d.flows.take k:=List.mem_iff_getElem?.2 ⟨j,by rw[List.getElem?_take,if_pos hjk];exact hf⟩
 have:=List.any_eq_false.1 ha f hm
 simp[q38,e1,e2] at this
theorem WI.flows2 {w:World} (h:WI w):w.door.flows.length≤2:=qoy h.cl h.fl (q3x h.door)
theorem qqv {s:Strm} (h:StrB s):(sOut s).all okB=true:=by
 simp only[sOut,List.all_flatMap,List.all_eq_true]
 intro p hp
 have:=(h.2.2 p hp).2.2.2
 simp only[txOk,Bool.and_eq_true] at this
 exact List.all_eq_true.1 this.1
theorem qg2 {was is:Strm} {p q:Pk} (hs:StrB is) (hp:PkP p) (hk:p.kind≠2) (h:q1h was is p=some q):PkP q∧q.frm=p.frm∧q.to=p.to∧q.kind=p.kind:=by
 have h1:=q1v (l:=is.parts) p.at_
 have h2:=q9s was is p
 have h3:=q3f hs
 have e:q1h was is p=if q0s is.parts p.at_≥toR was is p then none else if toR was is p - q0s is.parts p.at_≤40 then some { p with at_:=q0s is.parts p.at_,text:=((sOut is).take (toR was is p).toNat).drop (q0s is.parts p.at_).toNat } else none:=rfl
 rw[e] at h
 have h1':q0s is.parts p.at_≤((sOut is).length:Int):=h1.2
 have h1'':=h1.1
 generalize q0s is.parts p.at_=a at *
 generalize toR was is p=b at *
 split at h
 ·cases h
 ·split at h
  ·cases h
   have hl:(((sOut is).take b.toNat).drop a.toNat).length≤40:=by simp only[List.length_drop,List.length_take];omega
   refine⟨⟨⟨h1'',by simp only;omega⟩,hl,.inr ?_,λh=>absurd h hk,hp.kd⟩,rfl,rfl,rfl⟩
   simp only[txOk,Bool.and_eq_true,decide_eq_true_eq]
   exact⟨q50 (q8b (qqv hs)),hl⟩
  ·cases h
theorem qb0 {l:List Part} (h:∀p∈l,(1≤p.size∧p.size≤6)) (hl:l.length≤40) (n:Int):0≤backP l n∧backP l n≤240:=by
 have:=q8s (l:=l) (λp hp=>by have:=h p hp;omega) n
 omega
theorem q7e {d:Door} {p:Pk}:∀f∈(q5r d p).1.flows,(f.ins=p.frm∧f.out=p.to)∨∃g∈d.flows,f.ins=g.ins∧f.out=g.out:=by
 have hin:∀f∈d.flows,(f.ins=p.frm∧f.out=p.to)∨∃g∈d.flows,f.ins=g.ins∧f.out=g.out:=λf hf=>.inr ⟨f,hf,rfl,rfl⟩
 have hop:∀x k,q43 d p.frm p.to=some (x,k)→∀f∈x.flows,(f.ins=p.frm∧f.out=p.to)∨∃g∈d.flows,f.ins=g.ins∧f.out=g.out:=by
  intro x k h
  unfold q43 at h
  split at h
  ·cases h;exact hin
  ·split at h
   ·split at h
    ·cases h
     intro f hf
     rcases List.mem_append.1 hf with hf|hf
     ·exact hin f hf
     ·simp only[List.mem_singleton] at hf;subst hf;exact .inl ⟨rfl,rfl⟩
    ·cases h
   ·cases h
 unfold q5r
 split
 ·exact hin
 ·rename_i x k ho
  have hx:=hop x k ho
  split
  ·exact hx
  ·rename_i f hf
   split
   ·split<;>exact hx
   ·split
    ·exact hx
    ·intro g hg
     simp only at hg
     rcases List.mem_or_eq_of_mem_set hg with hg|rfl
     ·exact hx g hg
     ·exact hx f (List.mem_of_getElem? hf)
theorem q8j {d:Door} {p:Pk}:∀f∈(dIn d p).1.flows,∃g∈d.flows,f.ins=g.ins∧f.out=g.out:=by
 have hin:∀f∈d.flows,∃g∈d.flows,f.ins=g.ins∧f.out=g.out:=λf hf=>⟨f,hf,rfl,rfl⟩
 unfold dIn
 split
 ·exact hin
 ·split
  ·exact hin
  ·split
   ·exact hin
   ·rename_i f hf
    split
    ·split<;>exact hin
    ·split
     ·exact hin
     ·intro g hg
      simp only at hg
      rcases List.mem_or_eq_of_mem_set hg with hg|rfl
      ·exact hin g hg
      ·exact⟨f,List.mem_of_getElem? hf,rfl,rfl⟩
theorem qja {x:Door} {k:Nat} {p q:Pk} (hd:doorOk x=true) (hk:k<x.flows.length) (hp:PkP p) (h:(q66 x k p).2=some q):PkP q∧q.frm.inside=false∧q.frm=⟨9,portOf x.map p.frm⟩∧q.to=p.to∧q.kind=p.kind:=by
 have hf:x.flows[k]?=some (Flw.at x k):=by simp[Flw.at,List.getD,hk]
 obtain⟨_,_,hu,hdn,_⟩:=q1d hd hf
 have hn:∀n,(⟨9,n⟩:E).inside=false:=λn=>by simp[E.inside,q0g]
 unfold q66 at h
 split at h
 ·rename_i hk2
  split at h
  ·cases h
  ·cases h
   have hb:=q0h hdn
   have:=qb0 (λp hp=>(hb.2.2 p hp).1) hb.2.1 p.at_
   exact⟨⟨⟨this.1,by simp only;omega⟩,by simp,.inl rfl,λ_=>rfl,.inr rfl⟩,hn _,rfl,rfl,hk2.symm⟩
 ·rename_i hkd
  split at h
  ·cases h
  ·obtain⟨p1,p2⟩:=q4j (out:=true) (q07.1 hd).1 hu (hp.tx.resolve_left hkd) hp.at_.1
   simp only[zM] at h
   obtain⟨q',hq,rfl⟩:=h
   obtain⟨h1,h2,h3,h4⟩:=qg2 (q0h p2) hp hkd hq
   exact⟨⟨h1.at_,h1.len,h1.tx,h1.ack,h1.kd⟩,hn _,rfl,h3,h4⟩
theorem qr5 {x:Door} {k:Nat} {i:E} {p q:Pk} (hd:doorOk x=true) (hk:k<x.flows.length) (hp:PkP p) (h:(inK x k i p).2=some q):PkP q∧q.frm=p.frm∧q.to=i∧q.kind=p.kind:=by
 have hf:x.flows[k]?=some (Flw.at x k):=by simp[Flw.at,List.getD,hk]
 obtain⟨_,_,hu,hdn,_⟩:=q1d hd hf
 unfold inK at h
 split at h
 ·rename_i hk2
  split at h
  ·cases h
  ·cases h
   have hb:=q0h hu
   have:=qb0 (λp hp=>(hb.2.2 p hp).1) hb.2.1 p.at_
   exact⟨⟨⟨this.1,by simp only;omega⟩,by simp,.inl rfl,λ_=>rfl,.inr rfl⟩,rfl,rfl,hk2.symm⟩
 ·rename_i hkd
  split at h
  ·cases h
  ·obtain⟨p1,p2⟩:=q4j (out:=false) (q07.1 hd).1 hdn (hp.tx.resolve_left hkd) hp.at_.1
   simp only[zM] at h
   obtain⟨q',hq,rfl⟩:=h
   obtain⟨h1,h2,h3,h4⟩:=qg2 (q0h p2) hp hkd hq
   exact⟨⟨h1.at_,h1.len,h1.tx,h1.ack,h1.kd⟩,h2,rfl,h4⟩
theorem qev {c:B} {n:Int} {t:B} (hc:txOk c=true) (ht:txOk t=true) (hn:0≤n):txOk (q0b c n t).1=true:=by
 cases h:(q0b c n t).2 with
 | true=>exact qcq hc ht hn h
 | false =>
   have:(q0b c n t).1=c:=by
    revert h;unfold q0b;split
    ·intro;rfl
    ·split<;>(intro h;cases h)
   rw[this];exact hc
theorem q49 (c:Conv) (inward:Bool) (p:Pk):(hear c inward p).1.ins=c.ins∧(hear c inward p).1.out=c.out∧(hear c inward p).1.up=c.up∧(hear c inward p).1.down=c.down:=by
 unfold hear
 cases inward<;>simp only[cond_true,cond_false]<;>split<;>(try split)<;>exact⟨rfl,rfl,rfl,rfl⟩
theorem qbt {c:Conv} {inward:Bool} {p:Pk} (hc:convOk c=true) (hp:PkP p):convOk (hear c inward p).1=true:=by
 obtain⟨h1,h2,h3,h4,h5⟩:=q0e.1 hc
 have hp1:=hp.at_
 unfold hear
 cases inward<;>simp only[cond_true,cond_false]<;>split
 ·split
  ·exact q0e.2 ⟨h1,h2,by simp only;omega,h4,h5⟩
  ·rename_i hk
   exact q0e.2 ⟨h1,h2,h3,qev h4 (hp.tx.resolve_left hk) hp1.1,h5⟩
 ·exact hc
 ·split
  ·exact q0e.2 ⟨h1,by simp only;omega,h3,h4,h5⟩
  ·rename_i hk
   exact q0e.2 ⟨h1,h2,h3,h4,qev h5 (hp.tx.resolve_left hk) hp1.1⟩
 ·exact hc
theorem q74 {c:Conv} {inward:Bool} {p q:Pk} (hc:convOk c=true) (hp:PkP p) (h:(hear c inward p).2=some q):PkP q∧q.kind=2∧q.frm=p.to∧q.to=p.frm∧(bif inward then p.frm=c.out∧p.to=c.ins else p.to=c.out∧p.frm.door=true):=by
 have hh:=qbt (inward:=inward) hc hp
 revert hh h
 unfold hear
 cases inward<;>simp only[cond_true,cond_false]<;>split
 ·rename_i hb
  simp only[Bool.and_eq_true,decide_eq_true_eq] at hb
  split
  ·intro h;cases h
  ·intro h hh;cases h
   have:=(q20 hh).upGot
   exact⟨⟨by simp only at this ⊢;omega,by simp,.inl rfl,λ_=>rfl,.inr rfl⟩,rfl,rfl,rfl,hb⟩
 ·intro h;cases h
 ·rename_i hb
  simp only[Bool.and_eq_true,decide_eq_true_eq] at hb
  split
  ·intro h;cases h
  ·intro h hh;cases h
   have:=(q20 hh).downGot
   exact⟨⟨by simp only at this ⊢;omega,by simp,.inl rfl,λ_=>rfl,.inr rfl⟩,rfl,rfl,rfl,hb⟩
 ·intro h;cases h
theorem q90 {w:World} {p:Pk} {i:Nat} {b:Bool} (h:hostIx w p=some (i,b)):∃c,w.convs[i]?=some c∧b=(decide (p.to=c.ins)&&decide (p.frm=c.out)):=by
 unfold hostIx at h
 split at h
 ·split at h
  ·rename_i c hc
   cases h
   exact⟨c,hc,rfl⟩
  ·cases h
 ·cases h
theorem NetP.set {cs:List Conv} {i:Nat} {c x:Conv} {p:Pk} (hi:cs[i]?=some c) (h1:x.ins=c.ins) (h2:x.out=c.out) (h:NetP cs p):NetP (cs.set i x) p:=by
 refine⟨h.pk,λhin=>?_⟩
 obtain⟨c',hc',h3,h4⟩:=h.c hin
 obtain⟨j,hj⟩:=List.mem_iff_getElem?.1 hc'
 by_cases hij:i=j
 ·subst hij
  rw[hi] at hj;cases hj
  have hl:=(List.getElem?_eq_some_iff.1 hi).1
  exact⟨x,List.mem_set hl x,by rw[h3,h1],by rw[h4,h2]⟩
 ·exact⟨c',List.mem_iff_getElem?.2 ⟨j,by rw[List.getElem?_set_ne hij];exact hj⟩,h3,h4⟩
theorem WI.setC {w:World} (h:WI w) {i:Nat} {c x:Conv} (hi:w.convs[i]?=some c) (h1:x.ins=c.ins) (h2:x.out=c.out) (hx:convOk x=true):WI { w with convs:=w.convs.set i x }:=by
 refine⟨λy hy=>?_,by simpa using h.cl,h.door,λf hf=>?_,h.nl,λp hp=>(h.net p hp).set hi h1 h2⟩
 ·rcases List.mem_or_eq_of_mem_set hy with hy|rfl
  ·exact h.cv y hy
  ·exact hx
 ·obtain⟨c',hc',h3,h4⟩:=h.fl f hf
  obtain⟨j,hj⟩:=List.mem_iff_getElem?.1 hc'
  by_cases hij:i=j
  ·subst hij
   rw[hi] at hj;cases hj
   have hl:=(List.getElem?_eq_some_iff.1 hi).1
   exact⟨x,List.mem_set hl x,by rw[h3,h1],by rw[h4,h2]⟩
  ·exact⟨c',List.mem_iff_getElem?.2 ⟨j,by simp only;rw[List.getElem?_set_ne hij];exact hj⟩,h3,h4⟩
theorem qjz {cs:List Conv} {d:Door} {p q:Pk} (hd:doorOk d=true) (hp:NetP cs p) (h:(dPass d p).2=some q):NetP cs q:=by
 unfold dPass at h
 split at h
 ·rename_i ho
  simp only[Pk.outward,Bool.and_eq_true] at ho
  cases hok:(q0u d p.frm p.to).2.2 with
  | false=>rw[q45 hok] at h;cases h
  | true =>
    have hx:=q2q hd ho.1 ho.2 hok
    rw[q2f hok hx.kl] at h
    obtain⟨h1,h2,_⟩:=qja hx.ok hx.kl hp.pk h
    exact⟨h1,λhin=>by rw[h2] at hin;cases hin⟩
 ·split at h
  ·rename_i hi
   simp only[Pk.inward,Bool.and_eq_true] at hi
   cases h1:q0j d.map p.to.p with
   | none=>rw[q46 h1] at h;cases h
   | some i =>
     cases h2:q0p d.flows i p.frm with
     | none=>rw[q3p h1 h2] at h;cases h
     | some k =>
       obtain⟨hk,he⟩:=q39 h1 h2
       rw[he] at h
       obtain⟨h3,h4,_⟩:=qr5 hd hk hp.pk h
       exact⟨h3,λhin=>by rw[h4,q1y hi.1] at hin;cases hin⟩
  ·cases h
theorem qol {w:World} {p:Pk} (h:WI w) (hp:NetP w.convs p):WI (carry w p).1∧∀q,(carry w p).2=some q→NetP (carry w p).1.convs q:=by
 unfold carry
 split
 ·refine⟨⟨h.cv,h.cl,(qbq h.door hp.pk).1,λf hf=>?_,h.nl,h.net⟩,λq hq=>qjz h.door hp hq⟩
  simp only at hf
  unfold dPass at hf
  split at hf
  ·rename_i ho
   simp only[Pk.outward,Bool.and_eq_true] at ho
   rcases q7e f hf with⟨h1,h2⟩|⟨g,hg,h1,h2⟩
   ·obtain⟨c,hc,h3,h4⟩:=hp.c ho.1
    exact⟨c,hc,by rw[h1,h3],by rw[h2,h4]⟩
   ·obtain⟨c,hc,h3,h4⟩:=h.fl g hg
    exact⟨c,hc,by rw[h1,h3],by rw[h2,h4]⟩
  ·split at hf
   ·obtain⟨g,hg,h1,h2⟩:=q8j f hf
    obtain⟨c,hc,h3,h4⟩:=h.fl g hg
    exact⟨c,hc,by rw[h1,h3],by rw[h2,h4]⟩
   ·exact h.fl f hf
 ·split
  ·exact⟨h,λq hq=>by cases hq⟩
  ·rename_i i b hb
   obtain⟨c,hc,hbe⟩:=q90 hb
   simp only[hc]
   have hcv:=h.cv c (List.mem_of_getElem? hc)
   obtain⟨s1,s2,_,_⟩:=q49 c b p
   refine⟨h.setC hc s1 s2 (qbt hcv hp.pk),λq hq=>?_⟩
   obtain⟨h1,h2,h3,h4,h5⟩:=q74 hcv hp.pk hq
   refine NetP.set hc s1 s2 ⟨h1,λhin=>?_⟩
   have hcc:=q0e.1 hcv
   cases b with
   | true=>exact⟨c,List.mem_of_getElem? hc,by rw[h3];exact h5.2,by rw[h4];exact h5.1⟩
   | false =>
     rw[h3] at hin
     simp only[cond_false] at h5
     rw[h5.1,q1y hcc.1.2.1] at hin
     cases hin
theorem qtc {w:World} {o:Option Pk} (h:WI w) (hp:∀p,o=some p→NetP w.convs p):WI (send w o):=by
 unfold send
 cases o with
 | none=>exact h
 | some p =>
   simp only
   split
   ·refine⟨h.cv,h.cl,h.door,h.fl,by simp;omega,λq hq=>?_⟩
    rcases List.mem_append.1 hq with hq|hq
    ·exact h.net q hq
    ·simp only[List.mem_singleton] at hq;subst hq;exact hp _ rfl
   ·exact h
theorem qjg {c:Conv} {up:Bool} {port n m:Int} {p:Pk} (hc:convOk c=true) (h:say c up port n m=some p) :
 PkP p∧p.kind=1∧(bif up then p.frm=c.ins∧p.to=c.out else p.frm=c.out∧p.to=⟨9,port⟩∧(10≤port∧port≤17))∧p.at_=n∧p.text=((bif up then c.up else c.down).drop n.toNat).take (min m ((bif up then c.up else c.down).length - n)).toNat∧(0≤n∧n<(bif up then c.up else c.down).length)∧1≤m:=by
 obtain⟨⟨_,_,h3,h4,_⟩,_⟩:=q0e.1 hc
 unfold say at h
 cases up<;>simp only[Bool.false_eq_true,if_false,if_true,Bool.false_or,Bool.true_or,Bool.and_true] at h<;>split at h
 ·rename_i hg
  cases h
  simp only[Bool.and_eq_true,within_iff,decide_eq_true_eq,E.door_iff] at hg
  obtain⟨a,b,_⟩:=q2y h4
  have b':=b
  simp only[txOk,Bool.and_eq_true,decide_eq_true_eq] at b'
  have hl:((c.down.drop n.toNat).take (min m (c.down.length - n)).toNat).length≤40:=by simp only[List.length_take,List.length_drop];omega
  refine⟨⟨by simp only;omega,hl,.inr ?_,(λh=>by cases h),.inl rfl⟩,rfl,⟨rfl,rfl,hg.2.2⟩,rfl,rfl,by simp only[cond_false];omega,hg.1.2⟩
  simp only[txOk,Bool.and_eq_true,decide_eq_true_eq]
  exact⟨q8b (q50 b'.1),hl⟩
 ·cases h
 ·rename_i hg
  cases h
  simp only[Bool.and_eq_true,within_iff,decide_eq_true_eq] at hg
  obtain⟨a,b,_⟩:=q2y h3
  have b':=b
  simp only[txOk,Bool.and_eq_true,decide_eq_true_eq] at b'
  have hl:((c.up.drop n.toNat).take (min m (c.up.length - n)).toNat).length≤40:=by simp only[List.length_take,List.length_drop];omega
  refine⟨⟨by simp only;omega,hl,.inr ?_,(λh=>by cases h),.inl rfl⟩,rfl,⟨rfl,rfl⟩,rfl,rfl,by simp only[cond_true];omega,hg.2⟩
  simp only[txOk,Bool.and_eq_true,decide_eq_true_eq]
  exact⟨q8b (q50 b'.1),hl⟩
 ·cases h
theorem q2x {cs:List Conv} {c:Conv} {up:Bool} {port n m:Int} {p:Pk} (hm:c∈cs) (hc:convOk c=true) (h:say c up port n m=some p):NetP cs p:=by
 obtain⟨h1,_,h2,_⟩:=qjg hc h
 refine⟨h1,λhin=>?_⟩
 cases up with
 | true=>exact⟨c,hm,h2.1,h2.2⟩
 | false=>simp only[cond_false] at h2;rw[h2.1,q1y (q0e.1 hc).1.2.1] at hin;cases hin
theorem qf1 {w:World} (h:WI w) {up:Bool} {a b c:Int} {p:Pk} (hs:sayW w up a b c=some p):NetP w.convs p:=by
 unfold sayW at hs
 split at hs
 ·split at hs
  ·rename_i cv hcv
   have hm:=List.mem_of_getElem? hcv
   exact q2x hm (h.cv _ hm) hs
  ·cases hs
 ·cases hs
theorem qce {w:World} {p:Pk} (h:stranger w p=true):NetP w.convs p:=by
 simp only[stranger,Bool.and_eq_true,Pk.inward] at h
 exact⟨qk4 h.1.1,λhin=>by rw[q1y h.1.2.1] at hin;cases hin⟩
theorem WI.erase {w:World} (h:WI w) (k:Nat):WI { w with nets:=w.nets.eraseIdx k } :=
 ⟨h.cv,h.cl,h.door,h.fl,by have:=List.length_eraseIdx_le w.nets k;have:=h.nl;simp only;omega,λp hp=>h.net p (List.mem_of_mem_eraseIdx hp)⟩
theorem q29 {cs:List Conv}:q17 cs=true↔cs.length≤2∧∀i,i<cs.length→q9d cs i=true:=by
 simp[q17,and_comm]
theorem q6m {cs:List Conv} {i:Nat} (h:i<cs.length):q9d cs i=(convOk cs[i]&&!(cs.take i).any λo=>decide (o.ins=cs[i].ins)||decide (o.out=cs[i].out)):=by
 simp[q9d,h]
theorem qe7 {cs:List Conv} (h:q17 cs=true):∀c∈cs,convOk c=true:=λc hc=>by
 obtain⟨i,hi⟩:=List.mem_iff_getElem?.1 hc
 obtain⟨hl,rfl⟩:=List.getElem?_eq_some_iff.1 hi
 have:=(q29.1 h).2 i hl
 rw[q6m hl,Bool.and_eq_true] at this
 exact this.1
theorem qe0 {cs:List Conv} {w:World} (h:q0z cs=some w):WI w:=by
 unfold q0z at h
 split at h
 ·split at h
  ·rename_i ht
   cases h
   exact⟨qe7 ht,(q29.1 ht).1,(by decide:doorOk .zero=true),(λf hf=>by cases hf),by simp,(λp hp=>by cases hp)⟩
  ·cases h
 ·cases h
structure StepI (K:List Conv→Door→Prop) (N:List Conv→Door→Pk→Prop):Prop where
 say:∀(w:World) c up port n m p,WI w→K w.convs w.door→c∈w.convs→(up=false→port=portOf w.door.map c.ins)→say c up port n m=some p→N w.convs w.door p
 str:∀(w:World) p,WI w→K w.convs w.door→stranger w p=true→N w.convs w.door p
 pass:∀(w:World) p,WI w→K w.convs w.door→NetP w.convs p→N w.convs w.door p→(p.to.door=true∨p.frm.inside=true) →
  K w.convs (dPass w.door p).1∧(∀q,(dPass w.door p).2=some q→N w.convs (dPass w.door p).1 q)∧∀q,NetP w.convs q→N w.convs w.door q→N w.convs (dPass w.door p).1 q
 hear:∀(w:World) p i b c,WI w→K w.convs w.door→NetP w.convs p→N w.convs w.door p→¬(p.to.door=true∨p.frm.inside=true)→hostIx w p=some (i,b)→w.convs[i]?=some c →
  K (w.convs.set i (hear c b p).1) w.door∧(∀q,(hear c b p).2=some q→N (w.convs.set i (hear c b p).1) w.door q)∧∀q,NetP w.convs q→N w.convs w.door q→N (w.convs.set i (hear c b p).1) w.door q
structure SI (K:List Conv→Door→Prop) (N:List Conv→Door→Pk→Prop) (w:World):Prop where
 wi:WI w
 k:K w.convs w.door
 n:∀p∈w.nets,N w.convs w.door p
variable {K:List Conv→Door→Prop} {N:List Conv→Door→Pk→Prop}
theorem SI.erase {w:World} (h:SI K N w) (k:Nat):SI K N { w with nets:=w.nets.eraseIdx k }:=⟨h.wi.erase k,h.k,λp hp=>h.n p (List.mem_of_mem_eraseIdx hp)⟩
theorem SI.carry {w:World} {p:Pk} (S:StepI K N) (h:SI K N w) (hp:NetP w.convs p) (hn:N w.convs w.door p):SI K N (carry w p).1∧∀q,(carry w p).2=some q→NetP (carry w p).1.convs q∧N (carry w p).1.convs (carry w p).1.door q:=by
 obtain⟨h1,h2⟩:=qol h.wi hp
 suffices hh:K (M.carry w p).1.convs (M.carry w p).1.door∧(∀q∈(M.carry w p).1.nets,N (M.carry w p).1.convs (M.carry w p).1.door q)∧∀q,(M.carry w p).2=some q→N (M.carry w p).1.convs (M.carry w p).1.door q from
  ⟨⟨h1,hh.1,hh.2.1⟩,λq hq=>⟨h2 q hq,hh.2.2 q hq⟩⟩
 clear h1 h2
 unfold M.carry
 split
 ·rename_i hc
  obtain⟨p1,p2,p3⟩:=S.pass w p h.wi h.k hp hn (by simpa using hc)
  exact⟨p1,λq hq=>p3 q (h.wi.net q hq) (h.n q hq),p2⟩
 ·rename_i hc
  split
  ·exact⟨h.k,h.n,λq hq=>by cases hq⟩
  ·rename_i i b hb
   obtain⟨c,hcv,_⟩:=q90 hb
   simp only[hcv]
   obtain⟨p1,p2,p3⟩:=S.hear w p i b c h.wi h.k hp hn (by simpa using hc) hb hcv
   exact⟨p1,λq hq=>p3 q (h.wi.net q hq) (h.n q hq),p2⟩
theorem SI.send {w:World} {o:Option Pk} (h:SI K N w) (hp:∀p,o=some p→NetP w.convs p∧N w.convs w.door p):SI K N (send w o):=by
 refine⟨qtc h.wi λp e=>(hp p e).1, ?_, ?_⟩<;>unfold M.send<;>cases o with
 | none=>first|exact h.k|exact h.n
 | some p =>
   simp only
   split<;>first|exact h.k|exact h.n|skip
   all_goals intro q hq
   all_goals rcases List.mem_append.1 hq with hq|hq
   all_goals first
    | exact h.n q hq
    | (simp only[List.mem_singleton] at hq;subst hq;exact(hp _ rfl).2)
theorem SI.sayW {w:World} (S:StepI K N) (h:SI K N w) {up:Bool} {a b c:Int} {p:Pk} (hs:sayW w up a b c=some p):N w.convs w.door p:=by
 unfold M.sayW at hs
 split at hs
 ·split at hs
  ·rename_i cv hcv
   exact S.say w cv up _ b c p h.wi h.k (List.mem_of_getElem? hcv) (λhu=>by subst hu;rfl) hs
  ·cases hs
 ·cases hs
theorem SI.wDo {w:World} (S:StepI K N) (h:SI K N w) (e:Ev):SI K N (wDo w e):=by
 unfold M.wDo
 simp only
 split
 ·exact h.send λp hp=>⟨qf1 h.wi hp,h.sayW S hp⟩
 split
 ·exact h.send λp hp=>⟨qf1 h.wi hp,h.sayW S hp⟩
 split
 ·split
  ·split
   ·rename_i p hp
    obtain⟨h1,h2⟩:=(h.erase e.a.toNat).carry S (h.wi.net p (List.mem_of_getElem? hp)) (h.n p (List.mem_of_getElem? hp))
    exact h1.send h2
   ·exact h
  ·exact h
 split
 ·split
  ·exact h.erase _
  ·exact h
 split
 ·split
  ·exact h.send λp hp=>⟨h.wi.net p (List.mem_of_getElem? hp),h.n p (List.mem_of_getElem? hp)⟩
  ·exact h
 split
 ·split
  ·rename_i hs
   exact h.send λp hp=>by cases hp;exact⟨qce hs,S.str w _ h.wi h.k hs⟩
  ·exact h
 ·exact h
theorem SI.play {w:World} (S:StepI K N) (h:SI K N w):∀es:List Ev,SI K N (es.foldl M.wDo w)
 | []=>h
 | e::es=>SI.play S (h.wDo S e) es
theorem SI.through (S:StepI K N):∀(n:Nat) {w:World} {o:Option Pk},SI K N w→(∀p,o=some p→NetP w.convs p∧N w.convs w.door p)→SI K N (through n w o)
 | 0,_,_,h,_=>h
 | _+1,_,none,h,_=>h
 | n+1,_,some p,h,ho=>by
   obtain⟨h1,h2⟩:=h.carry S (ho p rfl).1 (ho p rfl).2
   exact SI.through S n h1 h2
def Apart (cs:List Conv):Prop:=∀(i j:Nat) c d,cs[i]?=some c→cs[j]?=some d→(c.ins=d.ins∨c.out=d.out)→i=j
theorem q44 {cs:List Conv} (h:q17 cs=true):Apart cs:=by
 have key:∀(i j:Nat) c d,i<j→cs[i]?=some c→cs[j]?=some d→¬(c.ins=d.ins∨c.out=d.out):=by
  intro i j c d hij hi hj
  obtain⟨hl,rfl⟩:=List.getElem?_eq_some_iff.1 hj
  have:=(q29.1 h).2 j hl
  rw[q6m hl,Bool.and_eq_true,Bool.not_eq_true'] at this
  have hm:c∈cs.take j:=List.mem_iff_getElem?.2 ⟨i,by rw[List.getElem?_take,if_pos hij];exact hi⟩
  have:=List.any_eq_false.1 this.2 c hm
  simpa using this
 intro i j c d hi hj he
 rcases Nat.lt_trichotomy i j with h1|h1|h1
 ·exact absurd he (key i j c d h1 hi hj)
 ·exact h1
 ·exact absurd (he.imp Eq.symm Eq.symm) (key j i d c h1 hj hi)
theorem Apart.set {cs:List Conv} (h:Apart cs) {i:Nat} {c x:Conv} (hi:cs[i]?=some c) (h1:x.ins=c.ins) (h2:x.out=c.out):Apart (cs.set i x):=by
 have hl:=(List.getElem?_eq_some_iff.1 hi).1
 have key:∀(j:Nat) y,(cs.set i x)[j]?=some y→∃z,cs[j]?=some z∧y.ins=z.ins∧y.out=z.out:=by
  intro j y hy
  by_cases hij:i=j
  ·subst hij
   rw[List.getElem?_set_self hl] at hy;cases hy
   exact⟨c,hi,h1,h2⟩
  ·rw[List.getElem?_set_ne hij] at hy
   exact⟨y,hy,rfl,rfl⟩
 intro j k a b ha hb he
 obtain⟨a',ha',e1,e2⟩:=key j a ha
 obtain⟨b',hb',e3,e4⟩:=key k b hb
 exact h j k a' b' ha' hb' (by rw[←e1,←e2,←e3,←e4];exact he)
theorem q5a:∀ {cs ns:List Conv},q16 cs=some ns→∀c∈ns,c.upGot=[]∧c.downGot=[]∧c.upAck=0∧c.downAck=0
 | [],ns,h,c,hc=>by cases h;cases hc
 | a::cs,ns,h,c,hc=>by
   simp only[q16] at h
   split at h
   ·rename_i n ns' h1 h2
    cases h
    rcases List.mem_cons.1 hc with rfl|hc
    ·unfold q1o at h1
     split at h1
     ·cases h1;exact⟨rfl,rfl,rfl,rfl⟩
     ·cases h1
    ·exact q5a h2 c hc
   ·cases h
theorem q2w {cs:List Conv} {w:World} (h:q0z cs=some w):q17 w.convs=true∧q16 cs=some w.convs∧w.door=.zero∧w.nets=[]:=by
 unfold q0z at h
 split at h
 ·rename_i ns hn
  split at h
  ·rename_i ht
   cases h
   exact⟨ht,hn,rfl,rfl⟩
  ·cases h
 ·cases h
theorem qcb {cs:List Conv} {es:List Ev} {w:World} (h:q4q cs es=some w):∃w0,q0z cs=some w0∧es.length≤60∧w=es.foldl wDo w0:=by
 unfold q4q at h
 split at h
 ·rename_i w0 h0
  split at h
  ·rename_i hl
   cases h
   exact⟨w0,h0,hl,rfl⟩
  ·cases h
 ·cases h
theorem qk9 {cs:List Conv} {es:List Ev} {w:World} (S:StepI K N) (h0:∀w0:World,q0z cs=some w0→K w0.convs w0.door) (h:q4q cs es=some w):SI K N w:=by
 obtain⟨w0,h1,_,rfl⟩:=qcb h
 obtain⟨_,_,_,hn⟩:=q2w h1
 exact SI.play S ⟨qe0 h1,h0 w0 h1,by rw[hn];intro p hp;cases hp⟩ es
theorem qkh {w:World} {p:Pk} {i:Nat} {b:Bool} {c:Conv} (h:hostIx w p=some (i,b)) (hc:w.convs[i]?=some c) :
 (bif b then p.to=c.ins∧p.frm=c.out else p.to=c.out∧p.frm.door=true∧p.frm.p=portOf w.door.map c.ins):=by
 unfold hostIx at h
 split at h
 ·rename_i k hk
  split at h
  ·rename_i d hd
   cases h
   rw[hc] at hd;cases hd
   obtain⟨hlt,hp,_⟩:=List.findIdx?_eq_some_iff_getElem.1 hk
   have:w.convs[i]=c:=by
    have:=zE hlt
    rw[hc] at this;cases this;rfl
   rw[this] at hp
   simp only[Bool.or_eq_true,Bool.and_eq_true,decide_eq_true_eq] at hp
   by_cases h1:p.to=c.ins∧p.frm=c.out
   ·simp[h1]
   ·have:(decide (p.to=c.ins)&&decide (p.frm=c.out))=false:=by
     simpa using h1
    rw[this]
    rcases hp with hp|hp
    ·exact absurd hp h1
    ·exact⟨hp.1.1,hp.1.2,hp.2⟩
  ·cases h
 ·cases h
theorem q9y (c:Conv) (b:Bool) (p:Pk):(∃x,(hear c b p).1.upGot=c.upGot++x)∧(∃x,(hear c b p).1.downGot=c.downGot++x)∧c.upAck≤(hear c b p).1.upAck∧c.downAck≤(hear c b p).1.downAck:=by
 have key:∀(g:B) (n:Int) (t:B),∃x,(q0b g n t).1=g++x:=by
  intro g n t
  unfold q0b
  split
  ·exact⟨[],by simp⟩
  ·split
   ·exact⟨[],by simp⟩
   ·exact⟨_,rfl⟩
 unfold hear
 cases b<;>simp only[cond_true,cond_false]<;>split
 ·split
  ·exact⟨⟨[],by simp⟩,⟨[],by simp⟩,Int.le_refl _,Int.le_max_left _ _⟩
  ·exact⟨key _ _ _,⟨[],by simp⟩,Int.le_refl _,Int.le_refl _⟩
 ·exact⟨⟨[],by simp⟩,⟨[],by simp⟩,Int.le_refl _,Int.le_refl _⟩
 ·split
  ·exact⟨⟨[],by simp⟩,⟨[],by simp⟩,Int.le_max_left _ _,Int.le_refl _⟩
  ·exact⟨⟨[],by simp⟩,key _ _ _,Int.le_refl _,Int.le_refl _⟩
 ·exact⟨⟨[],by simp⟩,⟨[],by simp⟩,Int.le_refl _,Int.le_refl _⟩
theorem qf9 (m:List Pair) (e:E):∃x,(mOut m e).1=m++x:=by
 unfold mOut
 split
 ·exact⟨[],by simp⟩
 ·split
  ·exact⟨[],by simp⟩
  ·exact⟨_,rfl⟩
theorem qmh (m:List Pair) (p:Pc) (s:B) (out:Bool):∃x,(turn m p s out).1=m++x:=by
 unfold turn
 cases out
 ·exact⟨[],by simp⟩
 ·simp only[cond_true,q0q]
  split
  ·have:=qf9 m p.e
   split
   ·rename_i h;rw[h] at this;exact this
   ·exact⟨[],by simp⟩
  ·exact⟨[],by simp⟩
theorem qak:∀(l:List Pc) (m:List Pair) (s:B) (out:Bool),∃x,(turned m l s out).1=m++x
 | [],m,s,out=>⟨[],by simp[turned]⟩
 | p::l,m,s,out=>by
   obtain⟨x,hx⟩:=qmh m p (s.take p.size) out
   obtain⟨y,hy⟩:=qak l (turn m p (s.take p.size) out).1 (s.drop p.size) out
   exact⟨x++y,by simp only[turned];rw[hy,hx,List.append_assoc]⟩
theorem qhu (m:List Pair) (s:Strm) (n:Int) (t:B) (out:Bool):∃x,(put m s n t out).1=m++x:=by
 unfold put
 split
 ·exact qak _ _ _ _
 ·exact⟨[],by simp⟩
theorem q9q {m x:List Pair} {e:E} (h:portOf m e≠0):portOf (m++x) e=portOf m e:=by
 unfold portOf at h ⊢
 rw[List.find?_append]
 cases hf:m.find? λp=>decide (p.ins=e) with
 | none=>rw[hf] at h;exact absurd rfl h
 | some p=>rfl
theorem qfl {m:List Pair} {s:Strm} {n:Int} {t:B} {out:Bool} {e:E} (h:portOf m e≠0):portOf (put m s n t out).1 e=portOf m e:=by
 obtain⟨x,hx⟩:=qhu m s n t out
 rw[hx];exact q9q h
theorem q4x {m:List Pair} {e:E} (hm:mapOk m=true) (h:portOf m e≠0):(⟨9,portOf m e⟩:E).door=true:=by
 obtain⟨hp,_⟩:=q0d hm
 have h1:=q5z (λp h=>(hp p h).1) h
 have:=q8w (e:=e) hm (by rw[h1])
 rw[h1] at this
 exact this
theorem q6t {cs:List Conv} {d:Door} {p q:Pk} (hd:doorOk d=true) (hp:NetP cs p) (h:(dPass d p).2=some q) :
 (p.outward=true∧q.frm=⟨9,portOf (dPass d p).1.map p.frm⟩∧q.frm.door=true∧q.to=p.to∧q.kind=p.kind) ∨
 (p.inward=true∧q.frm=p.frm∧q.to.inside=true∧q0j d.map p.to.p=some q.to∧q.kind=p.kind∧(q0p d.flows q.to q.frm).isSome=true):=by
 unfold dPass at h ⊢
 split at h
 ·rename_i ho
  have ho':=ho
  rw[if_pos ho]
  simp only[Pk.outward,Bool.and_eq_true] at ho
  left
  cases hok:(q0u d p.frm p.to).2.2 with
  | false=>rw[q45 hok] at h;cases h
  | true =>
    have hx:=q2q hd ho.1 ho.2 hok
    rw[q2f hok hx.kl] at h ⊢
    obtain⟨_,_,h2,h3,h4⟩:=qja hx.ok hx.kl hp.pk h
    have hmap:=hx.map
    have hport:=hx.port
    have hmp:portOf (q66 (q0u d p.frm p.to).1 (q0u d p.frm p.to).2.1 p).1.map p.frm=portOf (q0u d p.frm p.to).1.map p.frm:=by
     unfold q66
     split
     ·split<;>rfl
     ·split
      ·rfl
      ·have hf:(q0u d p.frm p.to).1.flows[(q0u d p.frm p.to).2.1]?=some (Flw.at (q0u d p.frm p.to).1 (q0u d p.frm p.to).2.1):=by simp[Flw.at,List.getD,hx.kl]
       exact qfl hport
    have hdr:(⟨9,portOf (q0u d p.frm p.to).1.map p.frm⟩:E).door=true:=q4x hmap hport
    exact⟨ho',by rw[h2,hmp],by rw[h2];exact hdr,h3,h4⟩
 ·rename_i hno
  rw[if_neg hno]
  split at h
  ·rename_i hi
   have hi':=hi
   simp only[Pk.inward,Bool.and_eq_true] at hi
   right
   cases h1:q0j d.map p.to.p with
   | none=>rw[q46 h1] at h;cases h
   | some i =>
     cases h2:q0p d.flows i p.frm with
     | none=>rw[q3p h1 h2] at h;cases h
     | some k =>
       obtain⟨hk,he⟩:=q39 h1 h2
       rw[he] at h
       obtain⟨_,h4,h5,h6⟩:=qr5 hd hk hp.pk h
       exact⟨hi',h4,by rw[h5];exact q6f (q07.1 hd).1 h1,by rw[h5],h6,by rw[h5,h4,h2];rfl⟩
  ·cases h
theorem qiz {c:Conv} {b:Bool} {p q:Pk} (h:(hear c b p).2=some q):q.at_=(bif b then(hear c b p).1.downGot.length else(hear c b p).1.upGot.length:Nat):=by
 revert h
 unfold hear
 cases b<;>simp only[cond_true,cond_false]<;>split
 ·split<;>(intro h;cases h)
  rfl
 ·intro h;cases h
 ·split<;>(intro h;cases h)
  rfl
 ·intro h;cases h
theorem q5v {cs:List Conv} {i:Nat} {x y:Conv} (h:y∈cs.set i x):y∈cs∨y=x:=List.mem_or_eq_of_mem_set h
def SmS (s:Strm):Prop:=∀p∈s.parts,5*p.text.length≤6*p.size.toNat
theorem qb4 {e:E} (h:e.any=true):5≤(name e).length∧(name e).length≤6:=by
 have key:∀e∈qg7,5≤(name e).length∧(name e).length≤6:=by decide
 exact key e (E.any_iff.1 h)
theorem qh4 {s:B} {e:E} (h:q19 s=some e):e.any=true:=by
 unfold q19 at h
 split at h
 ·cases h
 ·split at h
  ·unfold q08 at h
   exact E.any_iff.2 (List.mem_of_find?_eq_some h)
  ·cases h
theorem q8m:∀(n:Nat) (s:B),∀q∈pcK n s,q.named=true→5≤q.size
 | 0,s,q,hq,_=>by simp[pcK] at hq
 | n+1,[],q,hq,_=>by simp[pcK] at hq
 | n+1,c::r,q,hq,hn=>by
   rw[pcK] at hq
   split at hq
   ·rename_i e he
    rcases List.mem_cons.1 hq with rfl|hq
    ·exact(qb4 (qh4 he)).1
    ·exact q8m n _ q hq hn
   ·rcases List.mem_cons.1 hq with rfl|hq
    ·cases hn
    ·exact q8m n _ q hq hn
theorem qto {m:List Pair} (hm:mapOk m=true) (p:Pc) (s:B) (out:Bool) (hp:p.named=true→5≤p.size) (hs:s.length≤p.size):5*(turn m p s out).2.length≤6*p.size:=by
 unfold turn
 cases out
 ·simp only[cond_false,q2j]
  split
  ·rename_i h
   simp only[Bool.and_eq_true] at h
   split
   ·rename_i e he
    have:=(qb4 (q4i (q6f hm he))).2
    have:=hp h.1
    omega
   ·omega
  ·omega
 ·simp only[cond_true,q0q]
  split
  ·rename_i h
   simp only[Bool.and_eq_true] at h
   split
   ·rename_i x port he
    have hd:=q8w (e:=p.e) hm (by rw[he])
    rw[he] at hd
    have:=(qb4 (q6r hd)).2
    have:=hp h.1
    simp only at *;omega
   ·simp only;omega
  ·simp only;omega
theorem qck:∀ {l:List Pc} {m:List Pair} {s:B} {out:Bool},mapOk m=true→(∀q∈l,q.named=true→5≤q.size)→∀p∈q0w l (turned m l s out).2,5*p.text.length≤6*p.size.toNat
 | [],m,s,out,_,_,p,hp=>by simp[q0w] at hp
 | q::l,m,s,out,hm,hq,p,hp=>by
   simp only[turned,q0w] at hp
   rcases List.mem_cons.1 hp with rfl|hp
   ·have:=qto hm q (s.take q.size) out (hq q (by simp)) (by simp;omega)
    simpa using this
   ·exact qck (q7j hm q _ out) (λx hx=>hq x (by simp[hx])) p hp
theorem qde {m:List Pair} {s:Strm} {n:Int} {t:B} {out:Bool} (hm:mapOk m=true) (hs:SmS s):SmS (put m s n t out).2.1:=by
 unfold put
 split
 ·intro p hp
  simp only at hp
  rcases List.mem_append.1 hp with hp|hp
  ·exact hs p hp
  ·refine qck hm (λq hq=>?_) p hp
   exact q8m _ _ q (List.mem_of_mem_drop hq)
 ·exact hs
theorem qkv {s:Strm} (hs:SmS s) (hok:strmOk s=true):5*(sOut s).length≤6*s.inn.length:=by
 have key:∀l:List Part,(∀p∈l,5*p.text.length≤6*p.size.toNat)→5*(l.flatMap (·.text)).length≤6*doneP l:=by
  intro l
  induction l with
  | nil=>intro _;simp[doneP]
  | cons p l ih =>
    intro h
    have h1:=h p (by simp)
    have h2:=ih λq hq=>h q (by simp[hq])
    rw[q2u]
    simp only[List.flatMap_cons,zA]
    omega
 have h1:=key s.parts hs
 have h2:=(q26 hok).1
 have h4:(body s.inn).length≤s.inn.length:=by simp[body]
 show 5*(s.parts.flatMap (·.text)).length≤6*s.inn.length
 omega
theorem qkt {s:Strm} (hs:SmS s) (hok:strmOk s=true):(sOut s).length≤80:=by
 have h1:=qkv hs hok
 have h3:=(q0h hok).1
 omega
def DoorS (d:Door):Prop:=∀f∈d.flows,SmS f.up∧SmS f.down
theorem qt4 {d:Door} {p:Pk} (hd:doorOk d=true) (h:p.outward=true) (hs:DoorS d):DoorS (q5r d p).1:=by
 simp only[Pk.outward,Bool.and_eq_true] at h
 have hz:SmS .zero:=λp hp=>by cases hp
 cases hok:(q0u d p.frm p.to).2.2 with
 | false=>rw[q45 hok];exact hs
 | true =>
   have hx:=q2q hd h.1 h.2 hok
   rw[q2f hok hx.kl]
   have hxs:DoorS (q0u d p.frm p.to).1:=by
    unfold q0u q43
    split
    ·rename_i ho
     split at ho
     ·cases ho;exact hs
     ·split at ho
      ·split at ho
       ·cases ho
        intro f hf
        rcases List.mem_append.1 hf with hf|hf
        ·exact hs f hf
        ·simp only[List.mem_singleton] at hf;subst hf;exact⟨hz,hz⟩
       ·cases ho
      ·cases ho
    ·exact hs
   have hf:(q0u d p.frm p.to).1.flows[(q0u d p.frm p.to).2.1]?=some (Flw.at (q0u d p.frm p.to).1 (q0u d p.frm p.to).2.1):=by simp[Flw.at,List.getD,hx.kl]
   unfold q66
   split
   ·split<;>exact hxs
   ·split
    ·exact hxs
    ·intro f hf2
     simp only at hf2
     have hat:=hxs _ (List.mem_of_getElem? hf)
     rcases List.mem_or_eq_of_mem_set hf2 with hf2|rfl
     ·exact hxs f hf2
     ·exact⟨qde hx.map hat.1,hat.2⟩
theorem qux {d:Door} {p:Pk} (hd:doorOk d=true) (hs:DoorS d):DoorS (dIn d p).1:=by
 cases h1:q0j d.map p.to.p with
 | none=>rw[q46 h1];exact hs
 | some i =>
   cases h2:q0p d.flows i p.frm with
   | none=>rw[q3p h1 h2];exact hs
   | some k =>
     obtain⟨hk,he⟩:=q39 h1 h2
     rw[he]
     have hf:d.flows[k]?=some (Flw.at d k):=by simp[Flw.at,List.getD,hk]
     unfold inK
     split
     ·split<;>exact hs
     ·split
      ·exact hs
      ·intro f hf2
       simp only at hf2
       have hat:=hs _ (List.mem_of_getElem? hf)
       rcases List.mem_or_eq_of_mem_set hf2 with hf2|rfl
       ·exact hs f hf2
       ·exact⟨hat.1,qde (q07.1 hd).1 hat.2⟩
theorem qmj {d:Door} {p:Pk} (hd:doorOk d=true) (hs:DoorS d):DoorS (dPass d p).1:=by
 unfold dPass
 split
 ·rename_i h;exact qt4 hd h hs
 ·split
  ·exact qux hd hs
  ·exact hs
theorem q9a {p:Pk} (h1:p.frm.any=true) (h2:p.to.any=true) (h3:0≤p.at_∧p.at_≤99) (hp:PkP p) (h4:p.kind=1→p.text≠[]):q48 p=true:=by
 simp only[q48,h1,h2,within_iff.2 h3,Bool.true_and,Bool.or_eq_true,Bool.and_eq_true,decide_eq_true_eq]
 rcases hp.kd with h|h
 ·left
  refine⟨⟨h,hp.tx.resolve_left (by omega)⟩, ?_⟩
  have:=h4 h
  cases ht:p.text with
  | nil=>exact absurd ht this
  | cons=>rfl
 ·right
  exact⟨h,by rw[hp.ack h];rfl⟩
theorem qcg {was is:Strm} {p q:Pk} (h:q1h was is p=some q):q.text≠[]:=by
 have h1:=q1v (l:=is.parts) p.at_
 have h2:=q9s was is p
 have e:q1h was is p=if q0s is.parts p.at_≥toR was is p then none else if toR was is p - q0s is.parts p.at_≤40 then some { p with at_:=q0s is.parts p.at_,text:=((sOut is).take (toR was is p).toNat).drop (q0s is.parts p.at_).toNat } else none:=rfl
 rw[e] at h
 generalize q0s is.parts p.at_=a at *
 generalize toR was is p=b at *
 split at h
 ·cases h
 ·split at h
  ·cases h
   intro hn
   have:=congrArg List.length hn
   simp only[List.length_drop,List.length_take,zN] at this
   omega
  ·cases h
theorem qdg {was is:Strm} {p q:Pk} (h:q1h was is p=some q):0≤q.at_∧q.at_≤(sOut is).length:=by
 have h1:=q1v (l:=is.parts) p.at_
 have e:q1h was is p=if q0s is.parts p.at_≥toR was is p then none else if toR was is p - q0s is.parts p.at_≤40 then some { p with at_:=q0s is.parts p.at_,text:=((sOut is).take (toR was is p).toNat).drop (q0s is.parts p.at_).toNat } else none:=rfl
 rw[e] at h
 split at h
 ·cases h
 ·split at h
  ·cases h;exact h1
  ·cases h
theorem q60 {l:List Part} (h:∀p∈l,1≤p.size):∀n,backP l n≤(doneP l:Int):=by
 induction l with
 | nil=>intro n;simp[backP,doneP]
 | cons p l ih =>
   intro n
   have h1:=h p (by simp)
   have h2:=ih (λq hq=>h q (by simp[hq])) (n - p.text.length)
   rw[q2u]
   simp only[backP]
   split<;>omega
theorem qtv {x:Door} {k:Nat} {p q:Pk} (hd:doorOk x=true) (hs:DoorS x) (hk:k<x.flows.length) (hp:PkP p) (h:(q66 x k p).2=some q):(0≤q.at_∧q.at_≤99)∧(q.kind=1→q.text≠[]):=by
 have hf:x.flows[k]?=some (Flw.at x k):=by simp[Flw.at,List.getD,hk]
 obtain⟨_,_,hu,hdn,_⟩:=q1d hd hf
 obtain⟨hs1,hs2⟩:=hs _ (List.mem_of_getElem? hf)
 unfold q66 at h
 split at h
 ·split at h
  ·cases h
  ·cases h
   have hb:=q0h hdn
   have h1:=qb0 (λp hp=>(hb.2.2 p hp).1) hb.2.1 p.at_
   have h2:=q60 (λp hp=>(hb.2.2 p hp).1.1) p.at_
   have h3:=(q26 hdn).1
   have h4:(body (Flw.at x k).down.inn).length≤(Flw.at x k).down.inn.length:=by simp[body]
   have:=hb.1
   exact⟨by simp only;omega,λh=>by cases h⟩
 ·rename_i hkd
  split at h
  ·cases h
  ·obtain⟨p1,p2⟩:=q4j (out:=true) (q07.1 hd).1 hu (hp.tx.resolve_left hkd) hp.at_.1
   simp only[zM] at h
   obtain⟨q',hq,rfl⟩:=h
   have h1:=qdg hq
   have h2:=qkt (qde (out:=true) (n:=p.at_) (t:=p.text) (q07.1 hd).1 hs1) p2
   have hne:=qcg hq
   exact⟨by simp only;omega,λ_=>hne⟩
theorem j0v {x:Door} {k:Nat} {i:E} {p q:Pk} (hd:doorOk x=true) (hs:DoorS x) (hk:k<x.flows.length) (hp:PkP p) (h:(inK x k i p).2=some q):(0≤q.at_∧q.at_≤99)∧(q.kind=1→q.text≠[]):=by
 have hf:x.flows[k]?=some (Flw.at x k):=by simp[Flw.at,List.getD,hk]
 obtain⟨_,_,hu,hdn,_⟩:=q1d hd hf
 obtain⟨hs1,hs2⟩:=hs _ (List.mem_of_getElem? hf)
 unfold inK at h
 split at h
 ·split at h
  ·cases h
  ·cases h
   have hb:=q0h hu
   have h1:=qb0 (λp hp=>(hb.2.2 p hp).1) hb.2.1 p.at_
   have h2:=q60 (λp hp=>(hb.2.2 p hp).1.1) p.at_
   have h3:=(q26 hu).1
   have h4:(body (Flw.at x k).up.inn).length≤(Flw.at x k).up.inn.length:=by simp[body]
   have:=hb.1
   exact⟨by simp only;omega,λh=>by cases h⟩
 ·rename_i hkd
  split at h
  ·cases h
  ·obtain⟨p1,p2⟩:=q4j (out:=false) (q07.1 hd).1 hdn (hp.tx.resolve_left hkd) hp.at_.1
   simp only[zM] at h
   obtain⟨q',hq,rfl⟩:=h
   have h1:=qdg hq
   have h2:=qkt (qde (out:=false) (n:=p.at_) (t:=p.text) (q07.1 hd).1 hs2) p2
   have hne:=qcg hq
   exact⟨by simp only;omega,λ_=>hne⟩
theorem qfo {d:Door} {i o:E} (hs:DoorS d):DoorS (q0u d i o).1:=by
 have hz:SmS .zero:=λp hp=>by cases hp
 unfold q0u q43
 split
 ·rename_i ho
  split at ho
  ·cases ho;exact hs
  ·split at ho
   ·split at ho
    ·cases ho
     intro f hf
     rcases List.mem_append.1 hf with hf|hf
     ·exact hs f hf
     ·simp only[List.mem_singleton] at hf;subst hf;exact⟨hz,hz⟩
    ·cases ho
   ·cases ho
 ·exact hs
theorem qof {cs:List Conv} {d:Door} {p q:Pk} (hd:doorOk d=true) (hs:DoorS d) (hp:NetP cs p) (h:(dPass d p).2=some q):q48 q=true:=by
 have his:=q6t hd hp h
 have hqp:=(qjz hd hp h).pk
 have hat:(0≤q.at_∧q.at_≤99)∧(q.kind=1→q.text≠[]):=by
  unfold dPass at h
  split at h
  ·rename_i ho
   simp only[Pk.outward,Bool.and_eq_true] at ho
   cases hok:(q0u d p.frm p.to).2.2 with
   | false=>rw[q45 hok] at h;cases h
   | true =>
     have hx:=q2q hd ho.1 ho.2 hok
     rw[q2f hok hx.kl] at h
     exact qtv hx.ok (qfo hs) hx.kl hp.pk h
  ·split at h
   ·cases h1:q0j d.map p.to.p with
    | none=>rw[q46 h1] at h;cases h
    | some i =>
      cases h2:q0p d.flows i p.frm with
      | none=>rw[q3p h1 h2] at h;cases h
      | some k =>
        obtain⟨hk,he⟩:=q39 h1 h2
        rw[he] at h
        exact j0v hd hs hk hp.pk h
   ·cases h
 refine q9a ?_ ?_ hat.1 hqp hat.2
 ·rcases his with⟨_,_,h2,_⟩|⟨h1,h2,_⟩
  ·exact q6r h2
  ·simp only[Pk.inward,Bool.and_eq_true] at h1
   rw[h2];simp[E.any,h1.1]
 ·rcases his with⟨h1,_,_,h3,_⟩|⟨_,_,h3,_⟩
  ·simp only[Pk.outward,Bool.and_eq_true] at h1
   rw[h3];simp[E.any,h1.2]
  ·exact q4i h3
theorem qj3 {d:Door} {p:Pk}:∀g∈d.flows,∃f∈(q5r d p).1.flows,f.ins=g.ins∧f.out=g.out:=by
 have hin:∀g∈d.flows,∃f∈d.flows,f.ins=g.ins∧f.out=g.out:=λf hf=>⟨f,hf,rfl,rfl⟩
 have hop:∀x k,q43 d p.frm p.to=some (x,k)→∀g∈d.flows,g∈x.flows:=by
  intro x k h
  unfold q43 at h
  split at h
  ·cases h;exact λg hg=>hg
  ·split at h
   ·split at h
    ·cases h
     intro g hg
     simp[hg]
    ·cases h
   ·cases h
 unfold q5r
 split
 ·exact hin
 ·rename_i x k ho
  have hx:=hop x k ho
  split
  ·exact λg hg=>⟨g,hx g hg,rfl,rfl⟩
  ·rename_i f hf
   split
   ·split<;>exact λg hg=>⟨g,hx g hg,rfl,rfl⟩
   ·split
    ·exact λg hg=>⟨g,hx g hg,rfl,rfl⟩
    ·intro g hg
     obtain⟨j,hj⟩:=List.mem_iff_getElem?.1 (hx g hg)
     have hl:=(List.getElem?_eq_some_iff.1 hf).1
     by_cases hkj:k=j
     ·subst hkj
      rw[hf] at hj;cases hj
      exact⟨_,List.mem_set hl _,rfl,rfl⟩
     ·exact⟨g,List.mem_iff_getElem?.2 ⟨j,by simp only;rw[List.getElem?_set_ne hkj];exact hj⟩,rfl,rfl⟩
theorem qlh {d:Door} {p:Pk}:∀g∈d.flows,∃f∈(dIn d p).1.flows,f.ins=g.ins∧f.out=g.out:=by
 have hin:∀g∈d.flows,∃f∈d.flows,f.ins=g.ins∧f.out=g.out:=λf hf=>⟨f,hf,rfl,rfl⟩
 unfold dIn
 split
 ·exact hin
 ·split
  ·exact hin
  ·rename_i k _
   split
   ·exact hin
   ·rename_i f hf
    split
    ·split<;>exact hin
    ·split
     ·exact hin
     ·intro g hg
      obtain⟨j,hj⟩:=List.mem_iff_getElem?.1 hg
      have hl:=(List.getElem?_eq_some_iff.1 hf).1
      by_cases hkj:k=j
      ·subst hkj
       rw[hf] at hj;cases hj
       exact⟨_,List.mem_set hl _,rfl,rfl⟩
      ·exact⟨g,List.mem_iff_getElem?.2 ⟨j,by simp only;rw[List.getElem?_set_ne hkj];exact hj⟩,rfl,rfl⟩
theorem qgw {d:Door} {p:Pk}:∀g∈d.flows,∃f∈(dPass d p).1.flows,f.ins=g.ins∧f.out=g.out:=by
 unfold dPass
 split
 ·exact qj3
 ·split
  ·exact qlh
  ·exact λf hf=>⟨f,hf,rfl,rfl⟩
def Has (d:Door) (i o:E):Prop:=∃f∈d.flows,f.ins=i∧f.out=o
theorem qg6 {d:Door} {i o:E}:(q0p d.flows i o).isSome=true↔Has d i o:=by
 constructor
 ·intro h
  obtain⟨k,hk⟩:=Option.isSome_iff_exists.1 h
  obtain⟨f,hf,h1,h2,_⟩:=q2k hk
  exact⟨f,List.mem_of_getElem? hf,h1,h2⟩
 ·rintro⟨f,hf,h1,h2⟩
  cases h:q0p d.flows i o with
  | some k=>rfl
  | none =>
    have:=List.any_eq_false.1 (q2z.1 h) f hf
    simp[q38,h1,h2] at this
theorem qft {d:Door} {p:Pk} {i o:E} (h:Has d i o):Has (dPass d p).1 i o:=by
 obtain⟨f,hf,h1,h2⟩:=h
 obtain⟨g,hg,h3,h4⟩:=qgw (p:=p) f hf
 exact⟨g,hg,by rw[h3,h1],by rw[h4,h2]⟩
def NetN (_:List Conv) (d:Door) (p:Pk):Prop:=q48 p=true ∧
 ((p.frm.inside=true∧p.to.outside=true)∨(p.frm.door=true∧p.to.outside=true)∨(p.frm.outside=true∧p.to.door=true)∨(p.frm.outside=true∧p.to.inside=true∧Has d p.to p.frm))
theorem qnh:StepI (λ_ d=>DoorS d) NetN where
 say:=λw c up port n m p hw hk hc hport hs=>by
  have hcv:=hw.cv c hc
  obtain⟨h1,h2,h3,h4,h5,h6,h7⟩:=qjg hcv hs
  have hcc:=q0e.1 hcv
  have hne:p.text≠[]:=by
   rw[h5]
   intro hn
   have:=congrArg List.length hn
   simp only[List.length_take,List.length_drop,zN] at this
   omega
  have hlen:((bif up then c.up else c.down).length:Int)≤24:=by
   have:=q20 hcv
   cases up
   ·have:=this.down;simp only[cond_false];omega
   ·have:=this.up;simp only[cond_true];omega
  have hat:0≤p.at_∧p.at_≤99:=by rw[h4];omega
  cases up with
  | true =>
    simp only[cond_true] at h3
    refine⟨q9a ?_ ?_ hat h1 (λ_=>hne),.inl ⟨by rw[h3.1];exact hcc.1.1,by rw[h3.2];exact hcc.1.2.1⟩⟩
    ·rw[h3.1];exact q4i hcc.1.1
    ·rw[h3.2];simp[E.any,hcc.1.2.1]
  | false =>
    simp only[cond_false] at h3
    have hd:(⟨9,port⟩:E).door=true:=E.door_iff.2 ⟨rfl,h3.2.2⟩
    refine⟨q9a ?_ ?_ hat h1 (λ_=>hne),.inr (.inr (.inl ⟨by rw[h3.1];exact hcc.1.2.1,by rw[h3.2.1];exact hd⟩))⟩
    ·rw[h3.1];simp[E.any,hcc.1.2.1]
    ·rw[h3.2.1];exact q6r hd
 str:=λw p hw hk hs=>by
  simp only[stranger,Bool.and_eq_true,Pk.inward] at hs
  exact⟨hs.1.1,.inr (.inr (.inl hs.1.2))⟩
 pass:=λw p hw hk hp hn _=>by
  refine⟨qmj hw.door hk,λq hq=>⟨qof hw.door hk hp hq, ?_⟩,λq _ hq=>⟨hq.1, ?_⟩⟩
  ·rcases q6t hw.door hp hq with⟨h1,_,h2,h3,_⟩|⟨h1,h2,h3,h4,_,h6⟩
   ·simp only[Pk.outward,Bool.and_eq_true] at h1
    exact .inr (.inl ⟨h2,by rw[h3];exact h1.2⟩)
   ·simp only[Pk.inward,Bool.and_eq_true] at h1
    exact .inr (.inr (.inr ⟨by rw[h2];exact h1.1,h3,qft (qg6.1 h6)⟩))
  ·rcases hq.2 with h|h|h|h
   ·exact .inl h
   ·exact .inr (.inl h)
   ·exact .inr (.inr (.inl h))
   ·exact .inr (.inr (.inr ⟨h.1,h.2.1,qft h.2.2⟩))
 hear:=λw p i b c hw hk hp hn hno hb hc=>by
  refine⟨hk,λq hq=>?_,λq _ h=>h⟩
  have hcm:=List.mem_of_getElem? hc
  have hcv:=hw.cv c hcm
  have hcc:=q0e.1 hcv
  obtain⟨h1,h2,h3,h4,h5⟩:=q74 hcv hp.pk hq
  have hat:=qiz hq
  have hB:=q20 (qbt (inward:=b) hcv hp.pk)
  have h99:0≤q.at_∧q.at_≤99:=by
   rw[hat]
   have:=hB.upGot
   have:=hB.downGot
   cases b<;>simp only[cond_true,cond_false]<;>omega
  cases b with
  | true =>
    simp only[cond_true] at h5
    refine⟨q9a ?_ ?_ h99 h1 (λh=>by omega),.inl ⟨by rw[h3,h5.2];exact hcc.1.1,by rw[h4,h5.1];exact hcc.1.2.1⟩⟩
    ·rw[h3,h5.2];exact q4i hcc.1.1
    ·rw[h4,h5.1];simp[E.any,hcc.1.2.1]
  | false =>
    simp only[cond_false] at h5
    refine⟨q9a ?_ ?_ h99 h1 (λh=>by omega),.inr (.inr (.inl ⟨by rw[h3,h5.1];exact hcc.1.2.1,by rw[h4];exact h5.2⟩))⟩
    ·rw[h3,h5.1];simp[E.any,hcc.1.2.1]
    ·rw[h4];exact q6r h5.2
def q0a (c:UInt8):B→List B
 | []=>[[]]
 | x::r=>if x=c then []::q0a c r else match q0a c r with
   | []=>[[x]]
   | h::t=>(x::h)::t
def q9l:B→Int
 | [a]=>if q57 a 48 then(a.toNat:Int) - 48 else -1
 | [a,b]=>if q57 a 48&&q57 b 48 then 10*((a.toNat:Int) - 48)+((b.toNat:Int) - 48) else -1
 | _ => -1
def q1l (ws:List B) (k:Nat):Int:=match ws[k]? with
 | some t=>q9l t
 | none => -1
def q0f (p:Pk):B:=if q48 p then(if p.kind=2 then [97,99,107,32] else [100,97,116,97,32])++(p.frm.text++(32::(p.to.text++(32::(dec p.at_++(if p.kind=2 then [] else 32::p.text)))))) else []
def q14 (t:B):Option Pk :=
 if 70<t.length then none else match q0a 32 t with
  | [_,f,o,n]=>let p:Pk:=⟨2,(q08 f).getD .zero,(q08 o).getD .zero,q9l n,[]⟩;if q0f p=t then some p else none
  | [_,f,o,n,x]=>let p:Pk:=⟨1,(q08 f).getD .zero,(q08 o).getD .zero,q9l n,x⟩;if q0f p=t then some p else none
  | _=>none
def q2b (ls:List B):B:=ls.flatMap λl=>l++[10]
def q23 (w:World) (line:B):World×B :=
 let ws:=q0a 32 line
 let h:=ws.headD []
 if h=[117,112] then(wDo w ⟨1,0,q1l ws 1,q1l ws 2,.zero⟩,[])
 else if h=[100,111,119,110] then(wDo w ⟨2,0,q1l ws 1,q1l ws 2,.zero⟩,[])
 else if h=[98,114,105,110,103] then(wDo w ⟨3,q1l ws 1,0,0,.zero⟩,[])
 else if h=[108,111,115,101] then(wDo w ⟨4,q1l ws 1,0,0,.zero⟩,[])
 else if h=[116,119,105,99,101] then(wDo w ⟨5,q1l ws 1,0,0,.zero⟩,[])
 else if h=[102,111,114,103,101] then(match q14 (line.drop 6) with
  | some p=>(wDo w ⟨6,0,0,0,p⟩,[])
  | none=>(w,[]))
 else if h=[99,97,108,109] then(round w,[])
 else if h=[109,97,112] then(w,q2b (w.door.map.map λp=>dec p.port++(32::p.ins.text))++(q7h w.door.map.length++[10]))
 else if h=[110,101,116,115] then(w,q2b (w.nets.map q0f)++(q7h w.nets.length++[10]))
 else(w,[119,104,97,116,10])
def q0l:World→List B→World×B
 | w,[]=>(w,[])
 | w,l::ls=>((q0l (q23 w l).1 ls).1,(q23 w l).2++(q0l (q23 w l).1 ls).2)
def q2g (w:World):B:=match w.convs with
 | c::_=>[117,112,32]++(dec c.upAck++(32::(c.upGot++(10::([100,111,119,110,32]++(dec c.downAck++(32::(c.downGot++[10]))))))))
 | []=>[]
def q1j (up down:B):Conv:=⟨⟨1,1⟩,⟨4,4⟩,up,down,0,0,[],[]⟩
def q10 (up down text:B):B:=match q0z [q1j up down] with
 | none=>[110,111,32,119,111,114,108,100,10]
 | some w=>if 600<text.length then [116,111,111,32,108,111,110,103,10] else(q0l w (q0a 10 text).dropLast).2++q2g (q0l w (q0a 10 text).dropLast).1
theorem qf7 (d:Door) (p:Pk):(∃y,(q5r d p).1.map=d.map++y)∧d.flows.length≤(q5r d p).1.flows.length:=by
 have h0:(∃y,d.map=d.map++y)∧d.flows.length≤d.flows.length:=⟨⟨[],by simp⟩,Nat.le_refl _⟩
 have hop:∀x k,q43 d p.frm p.to=some (x,k)→(∃y,x.map=d.map++y)∧d.flows.length≤x.flows.length:=by
  intro x k h
  unfold q43 at h
  split at h
  ·cases h;exact h0
  ·split at h
   ·rename_i m port hm
    split at h
    ·cases h
     have:=qf9 d.map p.frm
     rw[hm] at this
     exact⟨this,by simp⟩
    ·cases h
   ·cases h
 unfold q5r
 split
 ·exact h0
 ·rename_i x k ho
  have hx:=hop x k ho
  split
  ·exact hx
  ·rename_i f hf
   split
   ·split<;>exact hx
   ·split
    ·exact hx
    ·rename_i m s hp
     obtain⟨⟨y,hy⟩,hl⟩:=hx
     obtain⟨z,hz⟩:=qhu x.map f.up p.at_ p.text true
     rw[hp] at hz
     exact⟨⟨y++z,by simp only at hz ⊢;rw[hz,hy,List.append_assoc]⟩,by simpa using hl⟩
theorem qeg (d:Door) (p:Pk):(dIn d p).1.map=d.map∧(dIn d p).1.flows.length=d.flows.length:=by
 unfold dIn
 split
 ·exact⟨rfl,rfl⟩
 ·split
  ·exact⟨rfl,rfl⟩
  ·split
   ·exact⟨rfl,rfl⟩
   ·split
    ·split<;>exact⟨rfl,rfl⟩
    ·split
     ·exact⟨rfl,rfl⟩
     ·exact⟨rfl,by simp⟩
structure CExt (c d:Conv):Prop where
 ins:d.ins=c.ins
 out:d.out=c.out
 up:d.up=c.up
 down:d.down=c.down
 upGot:∃x,d.upGot=c.upGot++x
 downGot:∃x,d.downGot=c.downGot++x
 upAck:c.upAck≤d.upAck
 downAck:c.downAck≤d.downAck
theorem CExt.refl (c:Conv):CExt c c:=⟨rfl,rfl,rfl,rfl,⟨[],by simp⟩,⟨[],by simp⟩,Int.le_refl _,Int.le_refl _⟩
theorem CExt.trans {a b c:Conv} (h:CExt a b) (g:CExt b c):CExt a c:=by
 obtain⟨x,hx⟩:=h.upGot
 obtain⟨y,hy⟩:=g.upGot
 obtain⟨x',hx'⟩:=h.downGot
 obtain⟨y',hy'⟩:=g.downGot
 exact⟨g.ins.trans h.ins,g.out.trans h.out,g.up.trans h.up,g.down.trans h.down,⟨x++y,by rw[hy,hx,List.append_assoc]⟩,⟨x'++y',by rw[hy',hx',List.append_assoc]⟩,Int.le_trans h.upAck g.upAck,Int.le_trans h.downAck g.downAck⟩
structure Ext (w v:World):Prop where
 map:∃y,v.door.map=w.door.map++y
 fl:w.door.flows.length≤v.door.flows.length
 len:v.convs.length=w.convs.length
 cv:∀(i:Nat) c d,w.convs[i]?=some c→v.convs[i]?=some d→CExt c d
theorem Ext.same {w v:World} (h1:v.convs=w.convs) (h2:v.door=w.door):Ext w v :=
 ⟨⟨[],by rw[h2];simp⟩,by rw[h2];exact Nat.le_refl _,by rw[h1],λi c d hc hd=>by rw[h1,hc] at hd;cases hd;exact .refl _⟩
theorem Ext.trans {a b c:World} (h:Ext a b) (g:Ext b c):Ext a c:=by
 obtain⟨x,hx⟩:=h.map
 obtain⟨y,hy⟩:=g.map
 refine⟨⟨x++y,by rw[hy,hx,List.append_assoc]⟩,Nat.le_trans h.fl g.fl,g.len.trans h.len,λi p q hp hq=>?_⟩
 have hl:i<b.convs.length:=by rw[h.len];exact(List.getElem?_eq_some_iff.1 hp).1
 exact(h.cv i p _ hp (zE hl)).trans (g.cv i _ q (zE hl) hq)
theorem qdl (w:World) (p:Pk):Ext w (carry w p).1:=by
 unfold carry
 split
 ·have h:(∃y,(dPass w.door p).1.map=w.door.map++y)∧w.door.flows.length≤(dPass w.door p).1.flows.length:=by
   unfold dPass
   split
   ·exact qf7 _ _
   ·split
    ·have:=qeg w.door p
     exact⟨⟨[],by rw[this.1];simp⟩,by omega⟩
    ·exact⟨⟨[],by simp⟩,Nat.le_refl _⟩
  exact⟨h.1,h.2,rfl,λi c d hc hd=>by simp only at hd;rw[hc] at hd;cases hd;exact .refl _⟩
 ·split
  ·exact .same rfl rfl
  ·rename_i i b hb
   split
   ·exact .same rfl rfl
   ·rename_i c hc
    refine⟨⟨[],by simp⟩,Nat.le_refl _,by simp,λj x y hx hy=>?_⟩
    simp only at hy
    by_cases hij:i=j
    ·subst hij
     rw[hc] at hx;cases hx
     rw[List.getElem?_set_self (List.getElem?_eq_some_iff.1 hc).1] at hy;cases hy
     obtain⟨s1,s2,s3,s4⟩:=q49 c b p
     obtain⟨g1,g2,g3,g4⟩:=q9y c b p
     exact⟨s1,s2,s3,s4,g1,g2,g3,g4⟩
    ·rw[List.getElem?_set_ne hij,hx] at hy;cases hy;exact .refl _
theorem q73 (w:World) (o:Option Pk):Ext w (send w o):=by
 unfold send
 cases o with
 | none=>exact .same rfl rfl
 | some p=>simp only;split<;>exact .same rfl rfl
theorem qtr (w:World) (e:Ev):Ext w (wDo w e):=by
 unfold wDo
 simp only
 split
 ·exact q73 _ _
 split
 ·exact q73 _ _
 split
 ·split
  ·split
   ·have h1:Ext w { w with nets:=w.nets.eraseIdx e.a.toNat }:=.same rfl rfl
    exact h1.trans ((qdl _ _).trans (q73 _ _))
   ·exact .same rfl rfl
  ·exact .same rfl rfl
 split
 ·split<;>exact .same rfl rfl
 split
 ·split
  ·exact q73 _ _
  ·exact .same rfl rfl
 split
 ·split
  ·exact q73 _ _
  ·exact .same rfl rfl
 ·exact .same rfl rfl
theorem q9m {cs:List Conv} (hc:∀c∈cs,convOk c=true) (hl:cs.length≤2) (h:Apart cs):q17 cs=true:=by
 refine q29.2 ⟨hl,λi hi=>?_⟩
 rw[q6m hi,hc _ (List.getElem_mem hi),Bool.true_and,Bool.not_eq_true',List.any_eq_false]
 intro o ho
 obtain⟨j,hj⟩:=List.mem_iff_getElem?.1 ho
 rw[List.getElem?_take] at hj
 split at hj
 ·rename_i hji
  simp only[Bool.or_eq_true,decide_eq_true_eq]
  intro he
  have:=h j i o _ hj (zE hi) he
  omega
 ·cases hj
theorem q99 {d:Door} (h:doorOk d=true) {f g:Flw} (hf:f∈d.flows) (hg:g∈d.flows) (h1:f.ins=g.ins) (h2:f.out=g.out):f=g:=by
 obtain⟨j,hj⟩:=List.mem_iff_getElem?.1 hf
 obtain⟨k,hk⟩:=List.mem_iff_getElem?.1 hg
 rcases Nat.lt_trichotomy j k with hlt|rfl|hlt
 ·exact absurd ⟨h1,h2⟩ (q3x h j k f g hlt hj hk)
 ·rw[hj] at hk;exact Option.some.inj hk
 ·exact absurd ⟨h1.symm,h2.symm⟩ (q3x h k j g f hlt hk hj)
def St (T:B) (q:Pk):Prop:=0≤q.at_∧q.at_.toNat≤T.length∧q.text <+: T.drop q.at_.toNat
theorem St.mono {T U:B} {q:Pk} (h:St T q) (hp:T <+: U):St U q:=by
 obtain⟨y,rfl⟩:=hp
 obtain⟨h0,h1,z,hz⟩:=h
 exact⟨h0,by simp;omega,z++y,by rw[←List.append_assoc,hz,List.drop_append_of_le_length h1]⟩
theorem q6n {T g:B} {q:Pk} (hg:g <+: T) (hq:St T q):(q0b g q.at_ q.text).1 <+: T:=by
 unfold q0b
 split
 ·exact hg
 ·rename_i h1
  split
  ·exact hg
  ·rename_i h2
   obtain⟨y,rfl⟩:=hg
   obtain⟨h0,_,z,hz⟩:=hq
   simp only[Bool.or_eq_true,decide_eq_true_eq,not_or] at h1
   simp only
   rw[List.prefix_append_right_inj]
   have hle:q.at_.toNat≤g.length:=by omega
   rw[List.drop_append_of_le_length hle] at hz
   have:=congrArg (List.drop ((g.length:Int) - q.at_).toNat) hz
   rw[List.drop_append_of_le_length (by omega),List.drop_append_of_le_length (by rw[List.length_drop];omega),List.drop_drop] at this
   rw[List.drop_eq_nil_of_le (show g.length≤q.at_.toNat+((g.length:Int) - q.at_).toNat by omega)] at this
   exact⟨z,by simpa using this⟩
theorem qcf {was is:Strm} {p q:Pk} (h:q1h was is p=some q):St (sOut is) q∧q.kind=p.kind:=by
 have h1:=q1v (l:=is.parts) p.at_
 have h2:=q9s was is p
 have e:q1h was is p=if q0s is.parts p.at_≥toR was is p then none else if toR was is p - q0s is.parts p.at_≤40 then some { p with at_:=q0s is.parts p.at_,text:=((sOut is).take (toR was is p).toNat).drop (q0s is.parts p.at_).toNat } else none:=rfl
 rw[e] at h
 generalize q0s is.parts p.at_=a at *
 generalize toR was is p=b at *
 split at h
 ·cases h
 ·split at h
  ·cases h
   refine⟨⟨h1.1,by simp only;omega, ?_⟩,rfl⟩
   simp only
   rw[List.drop_take]
   exact List.take_prefix _ _
  ·cases h
theorem q3j {l:List Part} (h:∀p∈l,0≤p.size∧p.size≤6):∀ {i j:Int},i≤j→backP l i≤backP l j:=by
 induction l with
 | nil=>intro i j _;exact Int.le_refl _
 | cons p l ih =>
   intro i j hij
   have h1:=ih (λq hq=>h q (by simp[hq])) (show i - p.text.length≤j - p.text.length by omega)
   have h2:=h p (by simp)
   have h3:=(q8s (l:=l) (λq hq=>h q (by simp[hq])) (j - p.text.length)).1
   simp only[backP]
   split<;>split<;>omega
theorem q6i {l r:List Part} (h:∀p∈r,0≤p.size∧p.size≤6):∀ {n:Int},l <+: r→backP l n≤backP r n:=by
 induction l generalizing r with
 | nil=>intro n _;exact(q8s h n).1
 | cons p l ih =>
   intro n hp
   obtain⟨t,rfl⟩:=hp
   have h2:=h p (by simp)
   have h1:=ih (r:=l++t) (λq hq=>h q (by simp at hq ⊢;exact .inr hq)) (n:=n - p.text.length) (List.prefix_append _ _)
   simp only[List.cons_append,backP]
   split<;>omega
theorem q85 {s t:Strm} (h:s.parts <+: t.parts):sOut s <+: sOut t:=by
 obtain⟨y,hy⟩:=h
 simp only[sOut,←hy,List.flatMap_append]
 exact List.prefix_append _ _
structure Tr (c:Conv) (f:Flw):Prop where
 upIn:f.up.inn <+: c.up
 downIn:f.down.inn <+: c.down
 upGot:c.upGot <+: sOut f.up
 downGot:c.downGot <+: sOut f.down
 upAck:c.upAck≤backP f.up.parts c.upGot.length
 downAck:c.downAck≤backP f.down.parts c.downGot.length
def Of (f:Flw) (c:Conv):Prop:=f.ins=c.ins∧f.out=c.out
def TrK (cs:List Conv) (d:Door):Prop:=Apart cs∧∀c∈cs,(∀f∈d.flows,Of f c→Tr c f)∧((∀f∈d.flows,¬Of f c)→c.upGot=[]∧c.downGot=[]∧c.upAck=0∧c.downAck=0)
structure TrN (cs:List Conv) (d:Door) (p:Pk):Prop where
 up:p.kind=1→∀c∈cs,p.frm=c.ins→p.to=c.out→St c.up p
 down:p.kind=1→∀c∈cs,p.frm=c.out→p.to.door=true→St c.down p
 inn:p.kind=1→∀c∈cs,p.frm=c.out→p.to=c.ins→∃f∈d.flows,Of f c∧St (sOut f.down) p
 out:p.kind=1→p.frm.door=true→∃f∈d.flows,f.out=p.to∧portOf d.map f.ins=p.frm.p∧St (sOut f.up) p
 aUp:p.kind=2→∀c∈cs,p.frm=c.out→p.to.door=true→p.at_≤c.upGot.length
 aDown:p.kind=2→∀c∈cs,p.frm=c.ins→p.to=c.out→p.at_≤c.downGot.length
 aInn:p.kind=2→∀c∈cs,p.frm=c.out→p.to=c.ins→∃f∈d.flows,Of f c∧p.at_≤backP f.up.parts c.upGot.length
 aOut:p.kind=2→p.frm.door=true→∃f∈d.flows,f.out=p.to∧portOf d.map f.ins=p.frm.p∧∀c∈cs,Of f c→p.at_≤backP f.down.parts c.downGot.length
theorem q94 (m:List Pair) (s:Strm) (n:Int) (t:B) (out:Bool):s.parts <+: (put m s n t out).2.1.parts∧(put m s n t out).2.1.inn=(bif (put m s n t out).2.2 then(q0b s.inn n t).1 else s.inn):=by
 unfold put
 split
 ·exact⟨List.prefix_append _ _,rfl⟩
 ·exact⟨List.prefix_rfl,rfl⟩
theorem TrK.set {cs:List Conv} {x:Door} {m:List Pair} {k:Nat} {f g:Flw} (h:TrK cs x) (hf:x.flows[k]?=some f) (h1:g.ins=f.ins) (h2:g.out=f.out) (ht:∀c∈cs,Of f c→Tr c g):TrK cs ⟨m,x.flows.set k g⟩:=by
 have hl:=(List.getElem?_eq_some_iff.1 hf).1
 refine⟨h.1,λc hc=>⟨λu hu ho=>?_,λhno=>(h.2 c hc).2 λu hu ho=>?_⟩⟩
 ·rcases List.mem_or_eq_of_mem_set hu with hu|rfl
  ·exact(h.2 c hc).1 u hu ho
  ·exact ht c hc ⟨by rw[←h1];exact ho.1,by rw[←h2];exact ho.2⟩
 ·obtain⟨j,hj⟩:=List.mem_iff_getElem?.1 hu
  by_cases hkj:k=j
  ·subst hkj
   rw[hf] at hj;cases hj
   exact hno g (List.mem_set hl _) ⟨by rw[h1];exact ho.1,by rw[h2];exact ho.2⟩
  ·exact hno u (List.mem_iff_getElem?.2 ⟨j,by simp only;rw[List.getElem?_set_ne hkj];exact hj⟩) ho
theorem qfa {cs:List Conv} {d:Door} {i o:E} (h:TrK cs d):TrK cs (q0u d i o).1:=by
 unfold q0u q43
 split
 ·rename_i ho
  split at ho
  ·cases ho;exact h
  ·rename_i hix
   split at ho
   ·split at ho
    ·cases ho
     have hno:∀f∈d.flows,¬(f.ins=i∧f.out=o):=λf hf hc=>by
      have:=List.any_eq_false.1 (q2z.1 hix) f hf
      simp[q38,hc.1,hc.2] at this
     refine⟨h.1,λc hc=>⟨λf hf hof=>?_,λhn=>(h.2 c hc).2 λf hf=>hn f (List.mem_append_left _ hf)⟩⟩
     rcases List.mem_append.1 hf with hf|hf
     ·exact(h.2 c hc).1 f hf hof
     ·simp only[List.mem_singleton] at hf
      subst hf
      obtain⟨e1,e2,e3,e4⟩:=(h.2 c hc).2 λf hf hfo=>hno f hf ⟨by rw[hfo.1];exact hof.1.symm,by rw[hfo.2];exact hof.2.symm⟩
      exact⟨List.nil_prefix,List.nil_prefix,by rw[e1];exact List.nil_prefix,by rw[e2];exact List.nil_prefix,by rw[e3];simp[backP,Strm.zero],by rw[e4];simp[backP,Strm.zero]⟩
    ·cases ho
   ·cases ho
 ·exact h
def Gp (d x:Door):Prop:=∀f∈d.flows,∃g∈x.flows,g.ins=f.ins∧g.out=f.out∧f.up.parts <+: g.up.parts∧f.down.parts <+: g.down.parts
theorem Gp.refl (d:Door):Gp d d:=λf hf=>⟨f,hf,rfl,rfl,List.prefix_rfl,List.prefix_rfl⟩
theorem qps {x:Door} {m:List Pair} {k:Nat} {f g:Flw} (hf:x.flows[k]?=some f) (h1:g.ins=f.ins) (h2:g.out=f.out) (h3:f.up.parts <+: g.up.parts) (h4:f.down.parts <+: g.down.parts):Gp x ⟨m,x.flows.set k g⟩:=λu hu=>by
 obtain⟨j,hj⟩:=List.mem_iff_getElem?.1 hu
 have hl:=(List.getElem?_eq_some_iff.1 hf).1
 by_cases hkj:k=j
 ·subst hkj
  rw[hf] at hj;cases hj
  exact⟨g,List.mem_set hl _,h1,h2,h3,h4⟩
 ·exact⟨u,List.mem_iff_getElem?.2 ⟨j,by simp only;rw[List.getElem?_set_ne hkj];exact hj⟩,rfl,rfl,List.prefix_rfl,List.prefix_rfl⟩
theorem qj9 {d:Door} {i o:E}:∀f∈d.flows,f∈(q0u d i o).1.flows:=by
 unfold q0u q43
 split
 ·rename_i ho
  split at ho
  ·cases ho;exact λf hf=>hf
  ·split at ho
   ·split at ho
    ·cases ho;exact λf hf=>List.mem_append_left _ hf
    ·cases ho
   ·cases ho
 ·exact λf hf=>hf
theorem q9i {s:Strm} (h:strmOk s=true):∀p∈s.parts,0≤p.size∧p.size≤6:=λp hp=>by have:=((q0h h).2.2 p hp).1;omega
theorem qrm {cs:List Conv} {d:Door} {p:Pk} (hd:doorOk d=true) (hp:PkP p) (hi:p.frm.inside=true) (ho:p.to.outside=true) (hk:TrK cs d) (hn:TrN cs d p) :
 TrK cs (q5r d p).1∧Gp d (q5r d p).1∧∀q,(q5r d p).2=some q→∃g∈(q5r d p).1.flows,g.ins=p.frm∧g.out=p.to∧(q.kind=1→St (sOut g.up) q)∧(q.kind=2→∀c∈cs,Of g c→q.at_≤backP g.down.parts c.downGot.length):=by
 cases hok:(q0u d p.frm p.to).2.2 with
 | false=>rw[q45 hok];exact⟨hk,.refl _,λq h=>by cases h⟩
 | true =>
   have hx:=q2q hd hi ho hok
   rw[q2f hok hx.kl]
   have hk2:=qfa (i:=p.frm) (o:=p.to) hk
   have hsub:=qj9 (d:=d) (i:=p.frm) (o:=p.to)
   generalize (q0u d p.frm p.to).1=x at *
   generalize (q0u d p.frm p.to).2.1=k at *
   have hgr:Gp d x:=λf hf=>⟨f,hsub f hf,rfl,rfl,List.prefix_rfl,List.prefix_rfl⟩
   have hf:x.flows[k]?=some (Flw.at x k):=by simp[Flw.at,List.getD,hx.kl]
   have hfm:=List.mem_of_getElem? hf
   obtain⟨_,_,hu,hdn,_⟩:=q1d hx.ok hf
   have hfi:(Flw.at x k).ins=p.frm:=hx.flow.1
   have hfo:(Flw.at x k).out=p.to:=hx.flow.2
   unfold q66
   split
   ·rename_i hk2'
    split
    ·exact⟨hk2,hgr,λq h=>by cases h⟩
    ·refine⟨hk2,hgr,λq h=>?_⟩
     cases h
     refine⟨_,hfm,hfi,hfo,λh=>(by cases h),λ_ c hcm hof=>?_⟩
     refine q3j (q9i hdn) ?_
     exact hn.aDown hk2' c hcm (by rw[←hfi];exact hof.1) (by rw[←hfo];exact hof.2)
   ·rename_i hk2'
    have hk1:=hp.kd.resolve_right hk2'
    have hpp:=q94 x.map (Flw.at x k).up p.at_ p.text true
    split
    ·exact⟨hk2,hgr,λq h=>by cases h⟩
    ·rename_i hpt
     have hpt:(put x.map (Flw.at x k).up p.at_ p.text true).2.2=true:=by simpa using hpt
     rw[hpt,cond_true] at hpp
     have hdo:=(qk1 (p:=p) hx.ok hx.kl hp).1
     have hstr:strmOk (put x.map (Flw.at x k).up p.at_ p.text true).2.1=true:=by
      unfold q66 at hdo
      rw[if_neg hk2',if_neg (by rw[hpt];decide)] at hdo
      have:=q1d hdo (k:=k) (f:={ Flw.at x k with up:=(put x.map (Flw.at x k).up p.at_ p.text true).2.1 }) (by simp[List.getElem?_set_self hx.kl])
      exact this.2.2.1
     have hsg:=qps (x:=x) (m:=(put x.map (Flw.at x k).up p.at_ p.text true).1) (g:={ Flw.at x k with up:=(put x.map (Flw.at x k).up p.at_ p.text true).2.1 }) hf rfl rfl hpp.1 List.prefix_rfl
     refine⟨hk2.set hf rfl rfl λc hcm hof=>?_,λf hfm=>hsg f (hsub f hfm),λq h=>?_⟩
     ·have ht:=(hk2.2 c hcm).1 _ hfm hof
      refine⟨?_,ht.downIn,ht.upGot.trans (q85 hpp.1),ht.downGot,Int.le_trans ht.upAck (q6i (q9i hstr) hpp.1),ht.downAck⟩
      simp only[hpp.2]
      exact q6n ht.upIn (hn.up hk1 c hcm (by rw[←hfi];exact hof.1) (by rw[←hfo];exact hof.2))
     ·obtain⟨r,hr,rfl⟩:=Option.map_eq_some_iff.1 h
      obtain⟨s1,s2⟩:=qcf hr
      exact⟨_,List.mem_set hx.kl _,hfi,hfo,λ_=>s1,λh=>by simp only at h;rw[s2] at h;exact absurd h hk2'⟩
theorem quu {cs:List Conv} {d:Door} {p:Pk} (hd:doorOk d=true) (hp:PkP p) (hto:p.to.door=true) (hk:TrK cs d) (hn:TrN cs d p) :
 TrK cs (dIn d p).1∧Gp d (dIn d p).1∧∀q,(dIn d p).2=some q→∃g∈(dIn d p).1.flows,g.ins=q.to∧g.out=p.frm∧(q.kind=1→St (sOut g.down) q)∧(q.kind=2→∀c∈cs,Of g c→q.at_≤backP g.up.parts c.upGot.length):=by
 cases h1:q0j d.map p.to.p with
 | none=>rw[q46 h1];exact⟨hk,.refl _,λq h=>by cases h⟩
 | some i =>
   cases h2:q0p d.flows i p.frm with
   | none=>rw[q3p h1 h2];exact⟨hk,.refl _,λq h=>by cases h⟩
   | some k =>
     obtain⟨hkl,he⟩:=q39 h1 h2
     obtain⟨f0,hf0,f1,f2,_⟩:=q2k h2
     rw[he]
     have hf:d.flows[k]?=some (Flw.at d k):=by simp[Flw.at,List.getD,hkl]
     rw[hf] at hf0;cases hf0
     have hfm:=List.mem_of_getElem? hf
     obtain⟨_,_,hu,hdn,_⟩:=q1d hd hf
     unfold inK
     split
     ·rename_i hk2
      split
      ·exact⟨hk,.refl _,λq h=>by cases h⟩
      ·refine⟨hk,.refl _,λq h=>?_⟩
       cases h
       refine⟨_,hfm,f1,f2,λh=>(by cases h),λ_ c hcm hof=>?_⟩
       refine q3j (q9i hu) ?_
       exact hn.aUp hk2 c hcm (by rw[←f2];exact hof.2) hto
     ·rename_i hk2
      have hk1:=hp.kd.resolve_right hk2
      have hpp:=q94 d.map (Flw.at d k).down p.at_ p.text false
      split
      ·exact⟨hk,.refl _,λq h=>by cases h⟩
      ·rename_i hpt
       have hpt:(put d.map (Flw.at d k).down p.at_ p.text false).2.2=true:=by simpa using hpt
       rw[hpt,cond_true] at hpp
       have hdo:=(qq1 (p:=p) (i:=i) hd hkl hp).1
       have hstr:strmOk (put d.map (Flw.at d k).down p.at_ p.text false).2.1=true:=by
        unfold inK at hdo
        rw[if_neg hk2,if_neg (by rw[hpt];decide)] at hdo
        have:=q1d hdo (k:=k) (f:={ Flw.at d k with down:=(put d.map (Flw.at d k).down p.at_ p.text false).2.1 }) (by simp[List.getElem?_set_self hkl])
        exact this.2.2.2.1
       refine⟨hk.set hf rfl rfl λc hcm hof=>?_,qps hf rfl rfl List.prefix_rfl hpp.1,λq h=>?_⟩
       ·have ht:=(hk.2 c hcm).1 _ hfm hof
        refine⟨ht.upIn, ?_,ht.upGot,ht.downGot.trans (q85 hpp.1),ht.upAck,Int.le_trans ht.downAck (q6i (q9i hstr) hpp.1)⟩
        simp only[hpp.2]
        exact q6n ht.downIn (hn.down hk1 c hcm (by rw[←f2];exact hof.2) hto)
       ·obtain⟨r,hr,rfl⟩:=Option.map_eq_some_iff.1 h
        obtain⟨s1,s2⟩:=qcf hr
        exact⟨_,List.mem_set hkl _,f1,f2,λ_=>s1,λh=>by simp only at h;rw[s2] at h;exact absurd h hk2⟩
theorem q75 {m:List Pair} {e:E} (hm:mapOk m=true) (h:portOf m e≠0):q0j m (portOf m e)=some e:=by
 unfold portOf at h ⊢
 cases hf:m.find? λp=>decide (p.ins=e) with
 | none=>rw[hf] at h;exact absurd rfl h
 | some p =>
   have hp:=List.find?_some hf
   simp only[decide_eq_true_eq] at hp
   obtain⟨i,hi⟩:=List.getElem?_of_mem (List.mem_of_find?_eq_some hf)
   have hl:=(List.getElem?_eq_some_iff.1 hi).1
   have hpo:p.port=10+(i:Int):=by
    have h2:=hm
    simp only[mapOk,Bool.and_eq_true,decide_eq_true_eq,List.all_eq_true,List.mem_range] at h2
    have h3:=h2.1 i hl
    simp only[q4b,hi,Bool.and_eq_true,decide_eq_true_eq] at h3
    exact h3.1.1
   simp only
   rw[q8y hm,dif_pos (by omega)]
   have:(p.port - 10).toNat=i:=by omega
   simp only[this]
   have:=zE hl
   rw[hi] at this;cases this
   rw[hp]
theorem qsb {m:List Pair} {a b:E} (hm:mapOk m=true) (h:portOf m a≠0) (he:portOf m a=portOf m b):a=b:=by
 have h1:=q75 hm h
 have h2:=q75 hm (by rw[←he];exact h)
 rw[he,h2] at h1
 exact(Option.some.inj h1).symm
theorem q5f {cs:List Conv} (h:Apart cs) {a b:Conv} (ha:a∈cs) (hb:b∈cs) (he:a.ins=b.ins∨a.out=b.out):a=b:=by
 obtain⟨i,hi⟩:=List.mem_iff_getElem?.1 ha
 obtain⟨j,hj⟩:=List.mem_iff_getElem?.1 hb
 obtain rfl:=h i j a b hi hj he
 rw[hi] at hj;exact Option.some.inj hj
theorem q3a {e:E} (h1:e.inside=true) (h2:e.outside=true):False:=by have:=E.inside_iff.1 h1;have:=E.outside_iff.1 h2;omega
theorem q3o {e:E} (h1:e.inside=true) (h2:e.door=true):False:=by have:=E.inside_iff.1 h1;have:=E.door_iff.1 h2;omega
theorem q3z {e:E} (h1:e.outside=true) (h2:e.door=true):False:=by have:=E.outside_iff.1 h1;have:=E.door_iff.1 h2;omega
theorem TrN.odd {cs:List Conv} {d:Door} {p:Pk} (h1:∀c∈cs,p.frm≠c.ins) (h2:∀c∈cs,p.frm≠c.out) (h3:p.frm.door=true→False):TrN cs d p :=
 ⟨λ_ c hc h=>absurd h (h1 c hc),λ_ c hc h=>absurd h (h2 c hc),λ_ c hc h=>absurd h (h2 c hc),λ_ h=>(h3 h).elim,λ_ c hc h=>absurd h (h2 c hc),λ_ c hc h=>absurd h (h1 c hc),λ_ c hc h=>absurd h (h2 c hc),λ_ h=>(h3 h).elim⟩
theorem TrN.grow {cs:List Conv} {d x:Door} {q:Pk} (h:TrN cs d q) (hx:doorOk x=true) (hg:Gp d x) (hm:∃y,x.map=d.map++y):TrN cs x q:=by
 obtain⟨y,hy⟩:=hm
 have ok:∀g∈x.flows,strmOk g.up=true∧strmOk g.down=true:=λg hgm=>by
  obtain⟨k,hk⟩:=List.mem_iff_getElem?.1 hgm
  obtain⟨_,_,h1,h2,_⟩:=q1d hx hk
  exact⟨h1,h2⟩
 have hport:∀e:E,q.frm.door=true→portOf d.map e=q.frm.p→portOf x.map e=q.frm.p:=λe hd he=>by
  rw[hy,q9q (by have:=E.door_iff.1 hd;omega),he]
 refine⟨h.up,h.down,λa c b e f=>?_,λa b=>?_,h.aUp,h.aDown,λa c b e f=>?_,λa b=>?_⟩
 ·obtain⟨u,hu,u1,u2⟩:=h.inn a c b e f
  obtain⟨v,hv,v1,v2,v3,v4⟩:=hg u hu
  exact⟨v,hv,⟨v1.trans u1.1,v2.trans u1.2⟩,u2.mono (q85 v4)⟩
 ·obtain⟨u,hu,u1,u2,u3⟩:=h.out a b
  obtain⟨v,hv,v1,v2,v3,v4⟩:=hg u hu
  exact⟨v,hv,v2.trans u1,by rw[v1];exact hport _ b u2,u3.mono (q85 v3)⟩
 ·obtain⟨u,hu,u1,u2⟩:=h.aInn a c b e f
  obtain⟨v,hv,v1,v2,v3,v4⟩:=hg u hu
  exact⟨v,hv,⟨v1.trans u1.1,v2.trans u1.2⟩,Int.le_trans u2 (q6i (q9i (ok v hv).1) v3)⟩
 ·obtain⟨u,hu,u1,u2,u3⟩:=h.aOut a b
  obtain⟨v,hv,v1,v2,v3,v4⟩:=hg u hu
  exact⟨v,hv,v2.trans u1,by rw[v1];exact hport _ b u2,λc hc ho=>Int.le_trans (u3 c hc ⟨by rw[←v1];exact ho.1,by rw[←v2];exact ho.2⟩) (q6i (q9i (ok v hv).2) v4)⟩
theorem q5k:StepI TrK TrN where
 say:=λw c up port n m p hw hk hc hport hs=>by
  have hcc:=λx hx=>(q0e.1 (hw.cv x hx)).1
  obtain⟨_,hk1,h3,h4,h5,h6⟩:=qjg (hw.cv c hc) hs
  have hst:St (bif up then c.up else c.down) p:=⟨by omega,by rw[h4];omega,by rw[h5,h4];exact List.take_prefix _ _⟩
  have no2:∀ {q:Prop},p.kind=2→q:=λh=>by omega
  cases up with
  | true =>
    simp only[cond_true] at h3 hst
    have hin:p.frm.inside=true:=by rw[h3.1];exact(hcc c hc).1
    refine⟨λ_ x hx e _=>?_,λ_ x hx e=>?_,λ_ x hx e=>?_,λ_ e=>(q3o hin e).elim,λh=>no2 h,λh=>no2 h,λh=>no2 h,λh=>no2 h⟩
    ·obtain rfl:=q5f hk.1 hc hx (.inl (by rw[←h3.1,e]))
     exact hst
    ·exact(q3a hin (by rw[e];exact(hcc x hx).2.1)).elim
    ·exact(q3a hin (by rw[e];exact(hcc x hx).2.1)).elim
  | false =>
    simp only[cond_false] at h3 hst
    have hou:p.frm.outside=true:=by rw[h3.1];exact(hcc c hc).2.1
    have hdo:p.to.door=true:=by rw[h3.2.1];exact E.door_iff.2 ⟨rfl,h3.2.2⟩
    refine⟨λ_ x hx e=>?_,λ_ x hx e _=>?_,λ_ x hx _ e=>?_,λ_ e=>(q3z hou e).elim,λh=>no2 h,λh=>no2 h,λh=>no2 h,λh=>no2 h⟩
    ·exact(q3a (by rw[e];exact(hcc x hx).1) hou).elim
    ·obtain rfl:=q5f hk.1 hc hx (.inr (by rw[←h3.1,e]))
     exact hst
    ·exact(q3o (by rw[e];exact(hcc x hx).1) hdo).elim
 str:=λw p hw hk hs=>by
  simp only[stranger,Bool.and_eq_true,Pk.inward,Bool.not_eq_true'] at hs
  refine .odd (λc hc e=>q3a (q0e.1 (hw.cv c hc)).1.1 (by rw[←e];exact hs.1.2.1)) (λc hc e=>?_) λh=>q3z hs.1.2.1 h
  have:=List.any_eq_false.1 hs.2 c hc
  simp[e] at this
 pass:=λw p hw hk hp hn hpi=>by
  have hcc:=λx hx=>(q0e.1 (hw.cv x hx)).1
  have hext:∃y,(dPass w.door p).1.map=w.door.map++y:=by
   unfold dPass
   split
   ·exact(qf7 _ _).1
   ·split
    ·exact⟨[],by rw[(qeg w.door p).1];simp⟩
    ·exact⟨[],by simp⟩
  have hdok:=(qbq hw.door hp.pk).1
  by_cases hout:p.outward=true
  ·have ho:=hout
   simp only[Pk.outward,Bool.and_eq_true] at ho
   have e:dPass w.door p=q5r w.door p:=by unfold dPass;rw[if_pos hout]
   obtain⟨a,b,cq⟩:=qrm hw.door hp.pk ho.1 ho.2 hk hn
   rw[←e] at a b cq
   refine⟨a,λq hq=>?_,λq _ hq=>hq.grow hdok b hext⟩
   rcases q6t hw.door hp hq with⟨_,h2,h3,h4,h5⟩|⟨h1,_⟩
   ·obtain⟨g,hg,g1,g2,g3,g4⟩:=cq q hq
    have n1:∀x∈w.convs,q.frm≠x.ins:=λx hx e=>q3o (by rw[e];exact(hcc x hx).1) h3
    have n2:∀x∈w.convs,q.frm≠x.out:=λx hx e=>q3z (by rw[e];exact(hcc x hx).2.1) h3
    have hpo:portOf (dPass w.door p).1.map g.ins=q.frm.p:=by rw[g1,h2]
    exact⟨λ_ x hx h=>absurd h (n1 x hx),λ_ x hx h=>absurd h (n2 x hx),λ_ x hx h=>absurd h (n2 x hx),λk1 _=>⟨g,hg,by rw[g2,h4],hpo,g3 k1⟩,λ_ x hx h=>absurd h (n2 x hx),λ_ x hx h=>absurd h (n1 x hx),λ_ x hx h=>absurd h (n2 x hx),λk2 _=>⟨g,hg,by rw[g2,h4],hpo,g4 k2⟩⟩
   ·simp only[Pk.inward,Bool.and_eq_true] at h1
    exact(q3a ho.1 h1.1).elim
  ·by_cases hin:p.inward=true
   ·have hi:=hin
    simp only[Pk.inward,Bool.and_eq_true] at hi
    have e:dPass w.door p=dIn w.door p:=by unfold dPass;rw[if_neg hout,if_pos hin]
    obtain⟨a,b,cq⟩:=quu hw.door hp.pk hi.2 hk hn
    rw[←e] at a b cq
    refine⟨a,λq hq=>?_,λq _ hq=>hq.grow hdok b hext⟩
    rcases q6t hw.door hp hq with⟨h1,_⟩|⟨_,h2,h3,_⟩
    ·exact absurd h1 hout
    ·obtain⟨g,hg,g1,g2,g3,g4⟩:=cq q hq
     have hou:q.frm.outside=true:=by rw[h2];exact hi.1
     have n1:∀x∈w.convs,q.frm≠x.ins:=λx hx e=>q3a (by rw[e];exact(hcc x hx).1) hou
     have of:∀x:Conv,q.frm=x.out→q.to=x.ins→Of g x:=λx a b=>⟨by rw[g1,b],by rw[g2,←h2,a]⟩
     exact⟨λ_ x hx h=>absurd h (n1 x hx),λ_ x _ _ h=>(q3o h3 h).elim,λk1 x hx u v=>⟨g,hg,of x u v,g3 k1⟩,λ_ h=>(q3z hou h).elim,λ_ x _ _ h=>(q3o h3 h).elim,λ_ x hx h=>absurd h (n1 x hx),λk2 x hx u v=>⟨g,hg,of x u v,g4 k2 x hx (of x u v)⟩,λ_ h=>(q3z hou h).elim⟩
   ·have e:dPass w.door p=(w.door,none):=by unfold dPass;rw[if_neg hout,if_neg hin]
    rw[e]
    exact⟨hk,λq hq=>(by cases hq),λq _ hq=>hq⟩
 hear:=λw p i b c hw hk hp hn hno hb hc=>by
  have hcm:=List.mem_of_getElem? hc
  have hl:=(List.getElem?_eq_some_iff.1 hc).1
  have hcc:=λx hx=>(q0e.1 (hw.cv x hx)).1
  obtain⟨s1,s2,s3,s4⟩:=q49 c b p
  obtain⟨⟨x,hx⟩,⟨y,hy⟩,_,_⟩:=q9y c b p
  have hbx:=qkh hb hc
  have hk2:=hk.1.set hc s1 s2
  have hself:(hear c b p).1∈w.convs.set i (hear c b p).1:=List.mem_set hl _
  have hdm:=(q07.1 hw.door).1
  have strok:∀g∈w.door.flows,strmOk g.up=true∧strmOk g.down=true:=λg hgm=>by
   obtain⟨k,hk⟩:=List.mem_iff_getElem?.1 hgm
   obtain⟨_,_,h1,h2,_⟩:=q1d hw.door hk
   exact⟨h1,h2⟩
  have hfl:∃f∈w.door.flows,Of f c∧Tr (hear c b p).1 f:=by
   have hup:=λf (hf:f∈w.door.flows) (ho:Of f c)=>(hk.2 c hcm).1 f hf ho
   cases b with
   | true =>
     simp only[cond_true] at hbx
     by_cases k2:p.kind=2
     ·obtain⟨f,hf,ho,ha⟩:=hn.aInn k2 c hcm hbx.2 hbx.1
      refine⟨f,hf,ho, ?_⟩
      have t:=hup f hf ho
      have e:(hear c true p).1={ c with upAck:=max c.upAck (min p.at_ c.up.length) }:=by simp[hear,hbx,k2]
      rw[e]
      exact⟨t.upIn,t.downIn,t.upGot,t.downGot,by have:=t.upAck;simp only;omega,t.downAck⟩
     ·obtain⟨f,hf,ho,ha⟩:=hn.inn (hp.pk.kd.resolve_right k2) c hcm hbx.2 hbx.1
      refine⟨f,hf,ho, ?_⟩
      have t:=hup f hf ho
      have e:(hear c true p).1={ c with downGot:=(q0b c.downGot p.at_ p.text).1 }:=by simp[hear,hbx,k2]
      rw[e] at hy ⊢
      simp only at hy
      refine⟨t.upIn,t.downIn,t.upGot,q6n t.downGot ha,t.upAck, ?_⟩
      simp only[hy]
      exact Int.le_trans t.downAck (q3j (q9i (strok f hf).2) (by simp;omega))
   | false =>
     simp only[cond_false] at hbx
     have hof:∀f:Flw,f.out=p.to→portOf w.door.map f.ins=p.frm.p→Of f c:=λf f1 f2 =>
      ⟨qsb hdm (by rw[f2];have:=E.door_iff.1 hbx.2.1;omega) (by rw[f2,hbx.2.2]),by rw[f1,hbx.1]⟩
     by_cases k2:p.kind=2
     ·obtain⟨f,hf,f1,f2,ha⟩:=hn.aOut k2 hbx.2.1
      have ho:=hof f f1 f2
      refine⟨f,hf,ho, ?_⟩
      have t:=hup f hf ho
      have ha:=ha c hcm ho
      have e:(hear c false p).1={ c with downAck:=max c.downAck (min p.at_ c.down.length) }:=by simp[hear,hbx,k2]
      rw[e]
      exact⟨t.upIn,t.downIn,t.upGot,t.downGot,t.upAck,by have:=t.downAck;simp only;omega⟩
     ·obtain⟨f,hf,f1,f2,ha⟩:=hn.out (hp.pk.kd.resolve_right k2) hbx.2.1
      have ho:=hof f f1 f2
      refine⟨f,hf,ho, ?_⟩
      have t:=hup f hf ho
      have e:(hear c false p).1={ c with upGot:=(q0b c.upGot p.at_ p.text).1 }:=by simp[hear,hbx,k2]
      rw[e] at hx ⊢
      simp only at hx
      refine⟨t.upIn,t.downIn,q6n t.upGot ha,t.downGot, ?_,t.downAck⟩
      simp only[hx]
      exact Int.le_trans t.upAck (q3j (q9i (strok f hf).1) (by simp;omega))
  obtain⟨f,hf,hof,htr⟩:=hfl
  have hof':∀g:Flw,Of g (hear c b p).1↔Of g c:=λg=>by unfold Of;rw[s1,s2]
  refine⟨⟨hk2,λc2 hc2=>?_⟩,λq hq=>?_,λq _ h=>?_⟩
  ·rcases q5v hc2 with h6|rfl
   ·exact hk.2 c2 h6
   ·refine⟨λg hg ho=>?_,λhn=>absurd ((hof' f).2 hof) (hn f hf)⟩
    have ho:=(hof' g).1 ho
    have:g=f:=q99 hw.door hg hf (by rw[ho.1,hof.1]) (by rw[ho.2,hof.2])
    subst this
    exact htr
  ·obtain⟨_,q2,q3,q4,q5⟩:=q74 (hw.cv c hcm) hp.pk hq
   have hat:=qiz hq
   have no1:∀ {r:Prop},q.kind=1→r:=λh=>by omega
   have hcc':∀x∈w.convs.set i (hear c b p).1,x.ins.inside=true∧x.out.outside=true:=λx hx=>by
    rcases q5v hx with h6|rfl
    ·exact⟨(hcc x h6).1,(hcc x h6).2.1⟩
    ·rw[s1,s2];exact⟨(hcc c hcm).1,(hcc c hcm).2.1⟩
   cases b with
   | true =>
     simp only[cond_true] at q5 hat
     have hin:q.frm.inside=true:=by rw[q3,q5.2];exact(hcc c hcm).1
     refine⟨λh=>no1 h,λh=>no1 h,λh=>no1 h,λh=>no1 h,λ_ x hx e=>?_,λ_ x hx e _=>?_,λ_ x hx e=>?_,λ_ e=>(q3o hin e).elim⟩
     ·exact(q3a hin (by rw[e];exact(hcc' x hx).2)).elim
     ·have:=q5f hk2 hx hself (.inl (by rw[←e,q3,q5.2,s1]))
      rw[this,hat];omega
     ·exact(q3a hin (by rw[e];exact(hcc' x hx).2)).elim
   | false =>
     simp only[cond_false] at q5 hat
     have hou:q.frm.outside=true:=by rw[q3,q5.1];exact(hcc c hcm).2.1
     refine⟨λh=>no1 h,λh=>no1 h,λh=>no1 h,λh=>no1 h,λ_ x hx e _=>?_,λ_ x hx e=>?_,λ_ x hx _ e=>?_,λ_ e=>(q3z hou e).elim⟩
     ·have:=q5f hk2 hx hself (.inr (by rw[←e,q3,q5.1,s2]))
      rw[this,hat];omega
     ·exact(q3a (by rw[e];exact(hcc' x hx).1) hou).elim
     ·exact(q3o (e:=q.to) (by rw[e];exact(hcc' x hx).1) (by rw[q4];exact q5.2)).elim
  ·have old:∀z∈w.convs.set i (hear c b p).1,∃o∈w.convs,z.ins=o.ins∧z.out=o.out∧z.up=o.up∧z.down=o.down∧o.upGot.length≤z.upGot.length∧o.downGot.length≤z.downGot.length:=λz hz=>by
    rcases q5v hz with h6|rfl
    ·exact⟨z,h6,rfl,rfl,rfl,rfl,Nat.le_refl _,Nat.le_refl _⟩
    ·exact⟨c,hcm,s1,s2,s3,s4,by rw[hx];simp,by rw[hy];simp⟩
   refine⟨λk z hz e1 e2=>?_,λk z hz e1 e2=>?_,λk z hz e1 e2=>?_,h.out,λk z hz e1 e2=>?_,λk z hz e1 e2=>?_,λk z hz e1 e2=>?_,λk e1=>?_⟩
   ·obtain⟨o,ho,o1,o2,o3,o4,o5,o6⟩:=old z hz
    rw[o3];exact h.up k o ho (by rw[e1,o1]) (by rw[e2,o2])
   ·obtain⟨o,ho,o1,o2,o3,o4,o5,o6⟩:=old z hz
    rw[o4];exact h.down k o ho (by rw[e1,o2]) e2
   ·obtain⟨o,ho,o1,o2,o3,o4,o5,o6⟩:=old z hz
    obtain⟨u,hu,u1,u2⟩:=h.inn k o ho (by rw[e1,o2]) (by rw[e2,o1])
    exact⟨u,hu,⟨by rw[u1.1,o1],by rw[u1.2,o2]⟩,u2⟩
   ·obtain⟨o,ho,o1,o2,o3,o4,o5,o6⟩:=old z hz
    have:=h.aUp k o ho (by rw[e1,o2]) e2
    omega
   ·obtain⟨o,ho,o1,o2,o3,o4,o5,o6⟩:=old z hz
    have:=h.aDown k o ho (by rw[e1,o1]) (by rw[e2,o2])
    omega
   ·obtain⟨o,ho,o1,o2,o3,o4,o5,o6⟩:=old z hz
    obtain⟨u,hu,u1,u2⟩:=h.aInn k o ho (by rw[e1,o2]) (by rw[e2,o1])
    exact⟨u,hu,⟨by rw[u1.1,o1],by rw[u1.2,o2]⟩,Int.le_trans u2 (q3j (q9i (strok u hu).1) (by omega))⟩
   ·obtain⟨u,hu,u1,u2,u3⟩:=h.aOut k e1
    refine⟨u,hu,u1,u2,λz hz hoz=>?_⟩
    obtain⟨o,ho,o1,o2,o3,o4,o5,o6⟩:=old z hz
    exact Int.le_trans (u3 o ho ⟨by rw[hoz.1,o1],by rw[hoz.2,o2]⟩) (q3j (q9i (strok u hu).2) (by omega))
theorem StepI.both {K1 K2:List Conv→Door→Prop} {N1 N2:List Conv→Door→Pk→Prop} (S:StepI K1 N1) (T:StepI K2 N2):StepI (λcs d=>K1 cs d∧K2 cs d) (λcs d p=>N1 cs d p∧N2 cs d p) where
 say:=λw c up port n m p hw hk hc hp hs=>⟨S.say w c up port n m p hw hk.1 hc hp hs,T.say w c up port n m p hw hk.2 hc hp hs⟩
 str:=λw p hw hk hs=>⟨S.str w p hw hk.1 hs,T.str w p hw hk.2 hs⟩
 pass:=λw p hw hk hp hn hpi=>by
  obtain⟨a1,a2,a3⟩:=S.pass w p hw hk.1 hp hn.1 hpi
  obtain⟨b1,b2,b3⟩:=T.pass w p hw hk.2 hp hn.2 hpi
  exact⟨⟨a1,b1⟩,λq hq=>⟨a2 q hq,b2 q hq⟩,λq h hq=>⟨a3 q h hq.1,b3 q h hq.2⟩⟩
 hear:=λw p i b c hw hk hp hn hno hb hc=>by
  obtain⟨a1,a2,a3⟩:=S.hear w p i b c hw hk.1 hp hn.1 hno hb hc
  obtain⟨b1,b2,b3⟩:=T.hear w p i b c hw hk.2 hp hn.2 hno hb hc
  exact⟨⟨a1,b1⟩,λq hq=>⟨a2 q hq,b2 q hq⟩,λq h hq=>⟨a3 q h hq.1,b3 q h hq.2⟩⟩
theorem qhd (w:World) (ns:List Pk) (p:Pk):carry { w with nets:=ns } p=({ (carry w p).1 with nets:=ns },(carry w p).2):=by
 have e:hostIx { w with nets:=ns } p=hostIx w p:=rfl
 unfold carry
 rw[e]
 by_cases h:(p.to.door||p.frm.inside)=true
 ·rw[if_pos h,if_pos h]
 ·rw[if_neg h,if_neg h]
  cases hostIx w p with
  | none=>rfl
  | some x =>
    obtain⟨i,b⟩:=x
    simp only
    cases w.convs[i]?<;>rfl
theorem q5e:∀(n:Nat) (w:World) (ns:List Pk) (o:Option Pk),through n { w with nets:=ns } o={ through n w o with nets:=ns }
 | 0,_,_,_=>rfl
 | _+1,_,_,none=>rfl
 | n+1,w,ns,some p=>by
   simp only[through,qhd]
   exact q5e n _ ns _
theorem q5m (n:Nat) (w:World) (o:Option Pk):(through n w o).nets=w.nets:=congrArg (λx=>x.nets) (q5e n w w.nets o)
variable {K:List Conv→Door→Prop} {N:List Conv→Door→Pk→Prop}
theorem SI.drain (S:StepI K N):∀(l:List Pk) {w:World},w.nets=[]→SI K N { w with nets:=l }→SI K N (l.foldl (λw p=>M.through 4 w (some p)) w)∧(l.foldl (λw p=>M.through 4 w (some p)) w).nets=[]
 | [],w,hn,h=>by
   have e:({ w with nets:=[] }:World)=w:=by rw[←hn]
   rw[e] at h
   exact⟨h,hn⟩
 | p::l,w,hn,h=>by
   have h1:SI K N { w with nets:=l }:=h.erase 0
   have h2:=h1.through S 4 (o:=some p) λq hq=>by
    cases hq
    exact⟨h.wi.net _ (List.mem_cons_self ..),h.n _ (List.mem_cons_self ..)⟩
   rw[q5e] at h2
   rw[List.foldl_cons]
   exact SI.drain S l (by rw[q5m,hn]) h2
theorem SI.sayRound (S:StepI K N) {w:World} (h:SI K N w) (i:Nat):SI K N (M.sayRound w i):=by
 unfold M.sayRound
 split
 ·exact h
 ·rename_i c hc
  have hcm:=List.mem_of_getElem? hc
  have h1:=h.through S 4 (o:=say c true 0 c.upAck 24) λp hp=>⟨q2x hcm (h.wi.cv c hcm) hp,S.say w c true 0 _ _ p h.wi h.k hcm (λh=>by cases h) hp⟩
  simp only
  split
  ·exact h1
  ·rename_i c1 hc1
   have hcm1:=List.mem_of_getElem? hc1
   exact h1.through S 4 λp hp=>⟨q2x hcm1 (h1.wi.cv c1 hcm1) hp,S.say _ c1 false _ _ _ p h1.wi h1.k hcm1 (λ_=>rfl) hp⟩
theorem SI.says (S:StepI K N):∀(l:List Nat) {w:World},SI K N w→SI K N (l.foldl M.sayRound w)
 | [],_,h=>h
 | i::l,_,h=>SI.says S l (h.sayRound S i)
theorem SI.round (S:StepI K N) {w:World} (h:SI K N w):SI K N (M.round w):=SI.says S _ (SI.drain S w.nets (w:={ w with nets:=[] }) rfl h).1
theorem SI.rounds (S:StepI K N):∀(n:Nat) {w:World},SI K N w→SI K N (M.rounds n w)
 | 0,_,h=>h
 | n+1,_,h=>SI.rounds S n (h.round S)
theorem q7n:∀(n:Nat) (w:World),through n w none=w
 | 0,_=>rfl
 | _+1,_=>rfl
theorem q15:∀(n:Nat) (w:World) (o:Option Pk),Ext w (through n w o)
 | 0,_,_=>.same rfl rfl
 | _+1,_,none=>.same rfl rfl
 | n+1,w,some p=>(qdl w p).trans (q15 n _ _)
theorem qc9:∀(l:List Pk) (w:World),Ext w (l.foldl (λw p=>through 4 w (some p)) w)
 | [],_=>.same rfl rfl
 | _::l,w=>(q15 4 w _).trans (qc9 l _)
theorem q7u (w:World) (i:Nat):Ext w (sayRound w i):=by
 unfold sayRound
 split
 ·exact .same rfl rfl
 ·simp only
  split
  ·exact q15 4 w _
  ·exact(q15 4 w _).trans (q15 4 _ _)
theorem qbs:∀(l:List Nat) (w:World),Ext w (l.foldl sayRound w)
 | [],_=>.same rfl rfl
 | i::l,w=>(q7u w i).trans (qbs l _)
theorem qd1 (w:World):Ext w (round w):=((Ext.same rfl rfl:Ext w { w with nets:=[] }).trans (qc9 w.nets _)).trans (qbs _ _)
theorem qbb (w:World) (i:Nat):(sayRound w i).nets=w.nets:=by
 unfold sayRound
 split
 ·rfl
 ·simp only
  split<;>simp only[q5m]
theorem qdd:∀(l:List Nat) (w:World),(l.foldl sayRound w).nets=w.nets
 | [],_=>rfl
 | i::l,w=>by rw[List.foldl_cons,qdd l,qbb]
theorem q9o:∀(l:List Pk) (w:World),(l.foldl (λw p=>through 4 w (some p)) w).nets=w.nets
 | [],_=>rfl
 | p::l,w=>by rw[List.foldl_cons,q9o l,q5m]
theorem qh5 (w:World):(round w).nets=[]:=by
 unfold round
 simp only
 rw[qdd,q9o]
def MuK (cs:List Conv) (d:Door):Prop:=Apart cs∧∀c∈cs,c.up=[]→∀f∈d.flows,¬Of f c
def MuN (cs:List Conv) (_:Door) (p:Pk):Prop:=∀c∈cs,c.up=[]→¬(p.frm=c.ins∧p.to=c.out)∧¬(p.frm=c.out∧p.to=c.ins)
theorem qhw:StepI MuK MuN where
 say:=λw c up port n m p hw hk hc hport hs x hx he=>by
  have hcc:=λx hx=>(q0e.1 (hw.cv x hx)).1
  obtain⟨_,_,h3,_,_,h6,_⟩:=qjg (hw.cv c hc) hs
  cases up with
  | true =>
    simp only[cond_true] at h3 h6
    refine⟨λ⟨e1,e2⟩=>?_,λ⟨e1,_⟩=>q3a (hcc c hc).1 (by rw[←h3.1,e1];exact(hcc x hx).2.1)⟩
    obtain rfl:=q5f hk.1 hc hx (.inl (by rw[←h3.1,e1]))
    rw[he] at h6
    simp only[zN] at h6
    omega
  | false =>
    simp only[cond_false] at h3
    have hd:p.to.door=true:=by rw[h3.2.1];exact E.door_iff.2 ⟨rfl,h3.2.2⟩
    exact⟨λ⟨e1,_⟩=>q3a (hcc x hx).1 (by rw[←e1,h3.1];exact(hcc c hc).2.1),λ⟨_,e2⟩=>q3o (hcc x hx).1 (by rw[←e2];exact hd)⟩
 str:=λw p hw hk hs x hx he=>by
  have hcc:=λx hx=>(q0e.1 (hw.cv x hx)).1
  simp only[stranger,Bool.and_eq_true,Pk.inward] at hs
  exact⟨λ⟨e1,_⟩=>q3a (hcc x hx).1 (by rw[←e1];exact hs.1.2.1),λ⟨_,e2⟩=>q3o (hcc x hx).1 (by rw[←e2];exact hs.1.2.2)⟩
 pass:=λw p hw hk hp hn hpi=>by
  have hcc:=λx hx=>(q0e.1 (hw.cv x hx)).1
  refine⟨⟨hk.1,λc hc he f hf ho=>?_⟩,λq hq c hc he=>?_,λq _ hq=>hq⟩
  ·have old:(∃g∈w.door.flows,f.ins=g.ins∧f.out=g.out)→False:=λ⟨g,hg,g1,g2⟩=>hk.2 c hc he g hg ⟨by rw[←g1];exact ho.1,by rw[←g2];exact ho.2⟩
   unfold dPass at hf
   split at hf
   ·rcases q7e f hf with⟨e1,e2⟩|h
    ·exact(hn c hc he).1 ⟨by rw[←e1];exact ho.1,by rw[←e2];exact ho.2⟩
    ·exact old h
   ·split at hf
    ·exact old (q8j f hf)
    ·exact old ⟨f,hf,rfl,rfl⟩
  ·rcases q6t hw.door hp hq with⟨_,_,h3,_⟩|⟨h1,h2,h3,_,_,h6⟩
   ·exact⟨λ⟨e1,_⟩=>q3o (hcc c hc).1 (by rw[←e1];exact h3),λ⟨e1,_⟩=>q3z (hcc c hc).2.1 (by rw[←e1];exact h3)⟩
   ·simp only[Pk.inward,Bool.and_eq_true] at h1
    refine⟨λ⟨e1,_⟩=>q3a (hcc c hc).1 (by rw[←e1,h2];exact h1.1),λ⟨e1,e2⟩=>?_⟩
    obtain⟨f,hf,f1,f2⟩:=qg6.1 h6
    exact hk.2 c hc he f hf ⟨by rw[f1,e2],by rw[f2,e1]⟩
 hear:=λw p i b c hw hk hp hn hno hb hc=>by
  have hcm:=List.mem_of_getElem? hc
  obtain⟨s1,s2,s3,s4⟩:=q49 c b p
  have old:∀z∈w.convs.set i (hear c b p).1,∃o∈w.convs,z.ins=o.ins∧z.out=o.out∧z.up=o.up:=λz hz=>by
   rcases q5v hz with h6|rfl
   ·exact⟨z,h6,rfl,rfl,rfl⟩
   ·exact⟨c,hcm,s1,s2,s3⟩
  refine⟨⟨hk.1.set hc s1 s2,λz hz he f hf ho=>?_⟩,λq hq z hz he=>?_,λq _ h z hz he=>?_⟩
  ·obtain⟨o,ho1,o1,o2,o3⟩:=old z hz
   exact hk.2 o ho1 (by rw[←o3];exact he) f hf ⟨by rw[←o1];exact ho.1,by rw[←o2];exact ho.2⟩
  ·obtain⟨o,ho1,o1,o2,o3⟩:=old z hz
   obtain⟨_,_,q3,q4,_⟩:=q74 (hw.cv c hcm) hp.pk hq
   obtain⟨n1,n2⟩:=hn o ho1 (by rw[←o3];exact he)
   rw[q3,q4,o1,o2]
   exact⟨λ⟨a,b⟩=>n2 ⟨b,a⟩,λ⟨a,b⟩=>n1 ⟨b,a⟩⟩
  ·obtain⟨o,ho1,o1,o2,o3⟩:=old z hz
   rw[o1,o2]
   exact h o ho1 (by rw[←o3];exact he)
def CK (cs:List Conv) (d:Door):Prop:=TrK cs d∧DoorS d∧MuK cs d
def CN (cs:List Conv) (d:Door) (p:Pk):Prop:=TrN cs d p∧NetN cs d p∧MuN cs d p
theorem q0y:StepI CK CN:=q5k.both (qnh.both qhw)
theorem ql2 {cs:List Conv} {es:List Ev} {w:World} (h:q4q cs es=some w):SI CK CN w:=qk9 q0y (λw0 h0=>by
 obtain⟨h1,h2,h3,_⟩:=q2w h0
 have hno:∀f∈w0.door.flows,False:=λf hf=>by rw[h3] at hf;cases hf
 exact⟨⟨q44 h1,λc hc=>⟨λf hf=>(hno f hf).elim,λ_=>q5a h2 c hc⟩⟩,λf hf=>(hno f hf).elim,q44 h1,λc hc he f hf=>(hno f hf).elim⟩) h
theorem si_ok {w:World} (h:SI CK CN w):q5c w=true:=by
 simp only[q5c,Bool.and_eq_true,decide_eq_true_eq,List.all_eq_true]
 exact⟨⟨⟨q9m h.wi.cv h.wi.cl h.k.1.1,h.wi.door⟩,h.wi.nl⟩,λp hp=>(h.n p hp).2.1.1⟩
def q3u (w:World) (p:Pk) (c:Conv):Bool:=(decide (p.to=c.ins)&&decide (p.frm=c.out))||(decide (p.to=c.out)&&p.frm.door&&decide (p.frm.p=portOf w.door.map c.ins))
def qas (w:World) (p:Pk):World×Option Pk:=match hostIx w p with
 | none=>(w,none)
 | some (i,inward)=>match w.convs[i]? with
   | none=>(w,none)
   | some c=>({ w with convs:=w.convs.set i (hear c inward p).1 },(hear c inward p).2)
theorem q5u {w:World} {p:Pk} (h:(p.to.door||p.frm.inside)=false):carry w p=qas w p:=by
 unfold carry
 rw[if_neg (by simp[h])]
 rfl
theorem q2v {w:World} {p:Pk} (h:(p.to.door||p.frm.inside)=true):carry w p=({ w with door:=(dPass w.door p).1 },(dPass w.door p).2):=by
 unfold carry
 rw[if_pos h]
theorem qeq {w:World} {p:Pk} (h:w.convs.any (q3u w p)=false):qas w p=(w,none):=by
 have:w.convs.findIdx? (q3u w p)=none:=List.findIdx?_eq_none_iff.2 λx hx=>by simpa using List.any_eq_false.1 h x hx
 have e:hostIx w p=none:=by
  unfold hostIx
  rw[show(w.convs.findIdx? λc=>(decide (p.to=c.ins)&&decide (p.frm=c.out))||(decide (p.to=c.out)&&p.frm.door&&decide (p.frm.p=portOf w.door.map c.ins)))=none from this]
 unfold qas
 rw[e]
theorem q89 {w:World} {p:Pk} {k:Nat} (hk:k<w.convs.length) (h:(w.convs.take k).any (q3u w p)=false) (hm:q3u w p w.convs[k]=true) :
 qas w p=({ w with convs:=w.convs.set k (hear w.convs[k] (decide (p.to=w.convs[k].ins)&&decide (p.frm=w.convs[k].out)) p).1 },(hear w.convs[k] (decide (p.to=w.convs[k].ins)&&decide (p.frm=w.convs[k].out)) p).2):=by
 have:w.convs.findIdx? (q3u w p)=some k:=by
  refine List.findIdx?_eq_some_iff_getElem.2 ⟨hk,hm,λj hj=>?_⟩
  have:=List.any_eq_false.1 h w.convs[j] (List.mem_iff_getElem?.2 ⟨j,by rw[List.getElem?_take,if_pos hj];exact zE _⟩)
  simpa using this
 have e:hostIx w p=some (k,decide (p.to=w.convs[k].ins)&&decide (p.frm=w.convs[k].out)):=by
  unfold hostIx
  rw[show(w.convs.findIdx? λc=>(decide (p.to=c.ins)&&decide (p.frm=c.out))||(decide (p.to=c.out)&&p.frm.door&&decide (p.frm.p=portOf w.door.map c.ins)))=some k from this]
  simp only[zE hk]
 unfold qas
 rw[e]
 simp only[zE hk]
theorem qfm (w:World) (p:Pk) (c:Conv):q3u w p c=((decide (p.to=c.ins)&&decide (p.frm=c.out))||(decide (p.to=c.out)&&p.frm.door&&decide (p.frm.p=portOf w.door.map c.ins))):=rfl
theorem qdh {l:List Part} (h:∀p∈l,1≤p.size):∀ {k n:Int},0≤k→n≤backP l k→q0s l n≤k:=by
 induction l with
 | nil=>intro k n hk _;simpa[q0s] using hk
 | cons p l ih =>
   intro k n hk hn
   have h1:=h p (by simp)
   simp only[backP] at hn
   simp only[q0s]
   split at hn
   ·rename_i hl
    split
    ·have:=ih (λq hq=>h q (by simp[hq])) (k:=k - p.text.length) (n:=n - p.size) (by omega) (by omega)
     omega
    ·exact hk
   ·rw[if_neg (by omega)];exact hk
theorem qid {l:List Part} (h:∀p∈l,1≤p.size):∀ {n:Int},(doneP l:Int)≤n→q0s l n=(l.flatMap (·.text)).length:=by
 induction l with
 | nil=>intro n _;rfl
 | cons p l ih =>
   intro n hn
   have h1:=h p (by simp)
   rw[q2u] at hn
   have:=ih (λq hq=>h q (by simp[hq])) (n:=n - p.size) (by omega)
   simp only[q0s]
   rw[if_pos (by omega),this]
   simp
theorem ql4 {l:List Part} (h:∀p∈l,1≤p.size∧1≤p.text.length):∀ {n:Int},0≤n→n<(doneP l:Int)→q0s l n<((l.flatMap (·.text)).length:Int):=by
 induction l with
 | nil=>intro n h0 hn;simp only[doneP,List.map_nil,List.sum_nil] at hn;omega
 | cons p l ih =>
   intro n h0 hn
   have h1:=h p (by simp)
   rw[q2u] at hn
   simp only[q0s,List.flatMap_cons,zA]
   split
   ·have:=ih (λq hq=>h q (by simp[hq])) (n:=n - p.size) (by omega) (by omega)
    omega
   ·omega
theorem q9n {l:List Part} (h:∀p∈l,1≤p.size):∀ {n:Int},((l.flatMap (·.text)).length:Int)≤n→backP l n=doneP l:=by
 induction l with
 | nil=>intro n _;rfl
 | cons p l ih =>
   intro n hn
   have h1:=h p (by simp)
   simp only[List.flatMap_cons,zA] at hn
   have:=ih (λq hq=>h q (by simp[hq])) (n:=n - p.text.length) (by omega)
   rw[q2u]
   simp only[backP]
   rw[if_pos (by omega),this]
   omega
theorem q6g {g T:B} {n:Int} (hg:g <+: T) (h0:0≤n) (hn:n≤g.length) (hT:T.length≤40):q0b g n (T.drop n.toNat)=(T,true):=by
 obtain⟨y,rfl⟩:=hg
 unfold q0b
 have e:((List.drop n.toNat (g++y)).length:Int)=(g++y).length - n:=by rw[List.length_drop];simp;omega
 rw[if_neg (by rw[e];simp only[Bool.or_eq_true,decide_eq_true_eq];omega),e]
 simp only[zA] at *
 split
 ·have:y=[]:=by cases y with
   | nil=>rfl
   | cons=>simp at *;omega
  subst this;simp
 ·congr 1
  rw[List.drop_drop]
  have:n.toNat+((g.length:Int) - n).toNat=g.length:=by omega
  rw[this]
  simp
theorem qiw {s:Strm} {T:B} (hs:strmOk s=true) (hT:s.inn=T) (hh:q6a T=0):doneP s.parts=T.length:=by
 have:=(q26 hs).1
 rw[hT,q2r,hh] at this
 omega
theorem q4r {s:Strm} (hs:strmOk s=true):∀p∈s.parts,1≤p.size∧1≤p.text.length:=λp hp=>by
 have:=(q0h hs).2.2 p hp
 omega
theorem qez {m:List Pair} {s:Strm} {T:B} {n:Int} {out:Bool} (hm:mapOk m=true) (hs:strmOk s=true) (hsm:SmS s) (hpre:s.inn <+: T) (hT:q56 T=true) (h0:0≤n) (hn:n≤s.inn.length) (hlt:n<T.length) :
 (put m s n (T.drop n.toNat) out).2.2=true∧(put m s n (T.drop n.toNat) out).2.1.inn=T∧strmOk (put m s n (T.drop n.toNat) out).2.1=true∧(sOut (put m s n (T.drop n.toNat) out).2.1).length≤40∧doneP (put m s n (T.drop n.toNat) out).2.1.parts=T.length:=by
 obtain⟨a,b,hh⟩:=q2y hT
 have hb:=q6g hpre h0 hn (by omega)
 have htx:txOk (T.drop n.toNat)=true:=by
  simp only[txOk,Bool.and_eq_true,decide_eq_true_eq] at b ⊢
  exact⟨q50 b.1,by simp;omega⟩
 have h1:(put m s n (T.drop n.toNat) out).2.2=true:=by unfold put;rw[hb];rfl
 have h2:=(q94 m s n (T.drop n.toNat) out).2
 rw[h1,cond_true,hb] at h2
 have h3:=(q4j (out:=out) hm hs htx h0).2
 have h4:=qkv (qde (n:=n) (t:=T.drop n.toNat) (out:=out) hm hsm) h3
 rw[h2] at h4
 exact⟨h1,h2,h3,by simp only at h4;omega,qiw h3 h2 hh⟩
theorem qct {was is:Strm} {p:Pk} {T:B} (hs:strmOk is=true) (hT:is.inn=T) (hd:doneP is.parts=T.length) (h40:(sOut is).length≤40) (ht:p.text=T.drop p.at_.toNat) (h0:0≤p.at_) (hlt:p.at_<T.length) :
 q1h was is p=some { p with at_:=q0s is.parts p.at_,text:=(sOut is).drop (q0s is.parts p.at_).toNat }:=by
 have h1:=q4r hs
 have h1':=λp hp=>(h1 p hp).1
 have htot:∀n:Int,(T.length:Int)≤n→q0s is.parts n=(sOut is).length:=λn hn=>qid h1' (by omega)
 have hto:toR was is p=(sOut is).length:=by
  unfold toR
  split
  ·rfl
  ·refine htot _ ?_
   rw[ht,hT,List.length_drop]
   omega
 have hless:q0s is.parts p.at_<(sOut is).length:=ql4 h1 h0 (by omega)
 have hr:=q1v (l:=is.parts) p.at_
 have e:q1h was is p=if q0s is.parts p.at_≥toR was is p then none else if toR was is p - q0s is.parts p.at_≤40 then some { p with at_:=q0s is.parts p.at_,text:=((sOut is).take (toR was is p).toNat).drop (q0s is.parts p.at_).toNat } else none:=rfl
 rw[e,hto,if_neg (by omega),if_pos (by omega)]
 simp
theorem qke {α:Type} {l:List α} {k:Nat} {x:α} (h:x∈l.take k):∃j,j<k∧l[j]?=some x:=by
 obtain⟨j,hj⟩:=List.mem_iff_getElem?.1 h
 rw[List.getElem?_take] at hj
 split at hj
 ·exact⟨j,by assumption,hj⟩
 ·cases hj
theorem qfb {w:World} (hw:WI w) (ha:Apart w.convs) {i:Nat} {c:Conv} (hc:w.convs[i]?=some c) {p:Pk} (h1:p.to=c.out) (h2:p.frm=⟨9,portOf w.door.map c.ins⟩) (h3:portOf w.door.map c.ins≠0) :
 carry w p=({ w with convs:=w.convs.set i (hear c false p).1 },(hear c false p).2):=by
 have hcc:=λx hx=>(q0e.1 (hw.cv x hx)).1
 have hcm:=List.mem_of_getElem? hc
 have hl:=(List.getElem?_eq_some_iff.1 hc).1
 have hg:w.convs[i]=c:=(List.getElem?_eq_some_iff.1 hc).2
 have hd:p.frm.door=true:=by rw[h2];exact q4x (q07.1 hw.door).1 h3
 have hto:p.to.outside=true:=by rw[h1];exact(hcc c hcm).2.1
 have e1:p.to.door=false:=by cases h:p.to.door with
  | false=>rfl
  | true=>exact(q3z hto h).elim
 have e2:(decide (p.to=c.ins)&&decide (p.frm=c.out))=false:=by
  cases h:decide (p.to=c.ins) with
  | false=>rfl
  | true=>simp only[decide_eq_true_eq] at h;exact(q3a (hcc c hcm).1 (by rw[←h];exact hto)).elim
 rw[q5u (by rw[e1,qec hd];rfl)]
 have:=q89 (w:=w) (p:=p) hl (List.any_eq_false.2 λx hx=>?_) ?_
 ·rw[hg,e2] at this
  exact this
 ·obtain⟨j,hj,hjx⟩:=qke hx
  have hxm:=List.mem_of_getElem? hjx
  simp only[q3u,Bool.or_eq_true,Bool.and_eq_true,decide_eq_true_eq]
  rintro(⟨h,_⟩|⟨⟨h,_⟩,_⟩)
  ·exact q3a (hcc x hxm).1 (by rw[←h];exact hto)
  ·have:=ha j i x c hjx hc (.inr (by rw[←h,h1]))
   omega
 ·rw[hg]
  simp only[q3u,Bool.or_eq_true,Bool.and_eq_true,decide_eq_true_eq]
  exact .inr ⟨⟨h1,hd⟩,by rw[h2]⟩
theorem qj7 {w:World} (hw:WI w) (ha:Apart w.convs) {i:Nat} {c:Conv} (hc:w.convs[i]?=some c) {p:Pk} (h1:p.to=c.ins) (h2:p.frm=c.out) :
 carry w p=({ w with convs:=w.convs.set i (hear c true p).1 },(hear c true p).2):=by
 have hcc:=λx hx=>(q0e.1 (hw.cv x hx)).1
 have hcm:=List.mem_of_getElem? hc
 have hl:=(List.getElem?_eq_some_iff.1 hc).1
 have hg:w.convs[i]=c:=(List.getElem?_eq_some_iff.1 hc).2
 have hto:p.to.inside=true:=by rw[h1];exact(hcc c hcm).1
 have e1:p.to.door=false:=by cases h:p.to.door with
  | false=>rfl
  | true=>exact(q3o hto h).elim
 have e2:(decide (p.to=c.ins)&&decide (p.frm=c.out))=true:=by simp[h1,h2]
 rw[q5u (by rw[e1,h2,q1y (hcc c hcm).2.1];rfl)]
 have:=q89 (w:=w) (p:=p) hl (List.any_eq_false.2 λx hx=>?_) ?_
 ·rw[hg,e2] at this
  exact this
 ·obtain⟨j,hj,hjx⟩:=qke hx
  have hxm:=List.mem_of_getElem? hjx
  simp only[q3u,Bool.or_eq_true,Bool.and_eq_true,decide_eq_true_eq]
  rintro(⟨h,_⟩|⟨⟨h,_⟩,_⟩)
  ·have:=ha j i x c hjx hc (.inl (by rw[←h,h1]))
   omega
  ·exact q3a hto (by rw[h];exact(hcc x hxm).2.1)
 ·rw[hg]
  simp only[q3u,e2,Bool.true_or]
theorem qu2 {w:World} (hs:SI CK CN w) {i:Nat} {c:Conv} (hc:w.convs[i]?=some c) (hlt:c.upAck<c.up.length) (hmap:w.door.map.length≤7) :
 ∃c',(through 4 w (say c true 0 c.upAck 24)).convs[i]?=some c'∧c'.upAck=c'.up.length:=by
 have hcm:=List.mem_of_getElem? hc
 have hl:=(List.getElem?_eq_some_iff.1 hc).1
 obtain⟨⟨hins,hout,hsay,_,_⟩,⟨ha0,ha1⟩,_,_,_⟩:=q0e.1 (hs.wi.cv c hcm)
 obtain⟨hup24,_,hheld⟩:=q2y hsay
 have hsp:say c true 0 c.upAck 24=some ⟨1,c.ins,c.out,c.upAck,c.up.drop c.upAck.toNat⟩:=by
  unfold say
  simp only[if_true,Bool.true_or,Bool.and_true]
  rw[if_pos (by simp only[Bool.and_eq_true,within_iff,decide_eq_true_eq];omega)]
  rw[List.take_of_length_le (by simp;omega)]
 rw[hsp]
 have hnet:=q2x hcm (hs.wi.cv c hcm) hsp
 have hN:=q0y.say w c true 0 _ _ _ hs.wi hs.k hcm (λh=>by cases h) hsp
 generalize hp:(⟨1,c.ins,c.out,c.upAck,c.up.drop c.upAck.toNat⟩:Pk)=p at *
 have hfrm:p.frm=c.ins:=by rw[←hp]
 have hto:p.to=c.out:=by rw[←hp]
 have hkind:p.kind=1:=by rw[←hp]
 have hat:p.at_=c.upAck:=by rw[←hp]
 have htext:p.text=c.up.drop c.upAck.toNat:=by rw[←hp]
 clear hp
 have hpo:p.outward=true:=by simp only[Pk.outward,hfrm,hto,hins,hout];rfl
 have hok:(q0u w.door p.frm p.to).2.2=true:=by
  cases hix:q0p w.door.flows p.frm p.to with
  | some k=>rw[q5d hix]
  | none =>
    have hf2:=hs.wi.flows2
    have hm2:(mOut w.door.map p.frm).2.2=true:=by
     unfold mOut
     split
     ·rfl
     ·rw[if_neg (by omega)]
    rw[q5g hix hm2 (by omega)]
 have hx:=q2q hs.wi.door (by rw[hfrm];exact hins) (by rw[hto];exact hout) hok
 have hxs:=qfo (i:=p.frm) (o:=p.to) hs.k.2.1
 have hxt:=qfa (i:=p.frm) (o:=p.to) hs.k.1
 have hdo:=q2f hok hx.kl
 have hc1:carry w p=({ w with door:=(q5r w.door p).1 },(q5r w.door p).2):=by
  rw[q2v (by rw[hfrm,hins];simp)]
  simp only[dPass,if_pos hpo]
 obtain⟨hs1,hq1⟩:=hs.carry q0y hnet hN
 rw[hc1] at hs1 hq1
 rw[hdo] at hs1 hq1 hc1
 generalize (q0u w.door p.frm p.to).1=x at *
 generalize (q0u w.door p.frm p.to).2.1=k at *
 have hf:x.flows[k]?=some (Flw.at x k):=by simp[Flw.at,List.getD,hx.kl]
 have hfm:=List.mem_of_getElem? hf
 have hof:Of (Flw.at x k) c:=⟨by rw[←hfrm];exact hx.flow.1,by rw[←hto];exact hx.flow.2⟩
 have htr:=(hxt.2 c hcm).1 _ hfm hof
 obtain⟨_,_,hu,hdn,_⟩:=q1d hx.ok hf
 have hack:c.upAck≤(Flw.at x k).up.inn.length:=by
  have h1:=q60 (λp hp=>(q4r hu p hp).1) c.upGot.length
  have h2:=(q26 hu).1
  rw[q2r] at h2
  have:=htr.upAck
  omega
 obtain⟨p1,p2,p3,p4,p5⟩:=qez (m:=x.map) (out:=true) hx.map hu (hxs _ hfm).1 htr.upIn hsay ha0 hack hlt
 have hpe:put x.map (Flw.at x k).up c.upAck (c.up.drop c.upAck.toNat) true=put x.map (Flw.at x k).up p.at_ p.text true:=by rw[hat,htext]
 rw[hpe] at p1 p2 p3 p4 p5
 have hport:portOf (put x.map (Flw.at x k).up p.at_ p.text true).1 p.frm=portOf x.map p.frm:=qfl hx.port
 have hsend:=qct (was:=(Flw.at x k).up) (p:=p) p3 p2 p5 p4 (by rw[htext,hat]) (by rw[hat];exact ha0) (by rw[hat];exact hlt)
 have hout1:q66 x k p=(⟨(put x.map (Flw.at x k).up p.at_ p.text true).1,x.flows.set k { Flw.at x k with up:=(put x.map (Flw.at x k).up p.at_ p.text true).2.1 }⟩,
  some { p with frm:=⟨9,portOf x.map p.frm⟩,at_:=q0s (put x.map (Flw.at x k).up p.at_ p.text true).2.1.parts p.at_,text:=(sOut (put x.map (Flw.at x k).up p.at_ p.text true).2.1).drop (q0s (put x.map (Flw.at x k).up p.at_ p.text true).2.1.parts p.at_).toNat }):=by
  unfold q66
  rw[if_neg (by omega),p1,if_neg (by decide),hsend]
  rfl
 have hpn:portOf (put x.map (Flw.at x k).up p.at_ p.text true).1 c.ins≠0:=by rw[←hfrm,hport];exact hx.port
 rw[hout1] at hs1 hq1 hc1
 simp only at hs1 hq1 hc1
 rw[hfrm] at hport
 generalize (put x.map (Flw.at x k).up p.at_ p.text true).1=m' at *
 generalize (put x.map (Flw.at x k).up p.at_ p.text true).2.1=s' at *
 generalize hd1:(⟨m',x.flows.set k { Flw.at x k with up:=s' }⟩:Door)=d1 at *
 have hg1:({ Flw.at x k with up:=s' }:Flw)∈d1.flows:=by rw[←hd1];exact List.mem_set hx.kl _
 generalize hgg:({ Flw.at x k with up:=s' }:Flw)=g at *
 have hgo:Of g c:=by rw[←hgg];exact hof
 have hgu:g.up=s':=by rw[←hgg]
 have hmd:d1.map=m':=by rw[←hd1]
 rw[←hmd] at hport hpn
 rw[←hgu] at p2 p3 p4 p5 hq1 hc1
 clear hd1 hgg hout1 hsend p1 hpe hxs hxt hdo htr hack hfm hof hf hu hdn hok hN hnet
 have htr1:=(hs1.k.1.2 c hcm).1 g hg1 hgo
 have hle:=qdh (λp hp=>(q4r p3 p hp).1) (by omega) htr1.upAck
 have hfr:=q1v (l:=g.up.parts) c.upAck
 rw[hfrm,←hport,hat] at hq1 hc1
 have hb:=q6g htr1.upGot hfr.1 hle p4
 have hc2:=qfb (p:={ p with frm:=⟨9,portOf d1.map c.ins⟩,at_:=q0s g.up.parts c.upAck,text:=(sOut g.up).drop (q0s g.up.parts c.upAck).toNat }) hs1.wi hs1.k.1.1 (i:=i) (c:=c) hc hto rfl hpn
 have hdoor:(⟨9,portOf d1.map c.ins⟩:E).door=true:=q4x (q07.1 hs1.wi.door).1 hpn
 have hh2:hear c false { p with frm:=⟨9,portOf d1.map c.ins⟩,at_:=q0s g.up.parts c.upAck,text:=(sOut g.up).drop (q0s g.up.parts c.upAck).toNat }=({ c with upGot:=sOut g.up },some ⟨2,c.out,⟨9,portOf d1.map c.ins⟩,(sOut g.up).length,[]⟩):=by
  unfold hear
  simp only[hto,hdoor,hkind,hb,cond_false,decide_true,Bool.and_self,if_true]
  rfl
 rw[hh2] at hc2
 obtain⟨hq1a,hq1b⟩:=hq1 _ rfl
 obtain⟨hs2,hq2⟩:=hs1.carry q0y hq1a hq1b
 rw[hc2] at hs2 hq2
 obtain⟨hq2a,hq2b⟩:=hq2 _ rfl
 have hins2:q0j d1.map (portOf d1.map c.ins)=some c.ins:=q75 (q07.1 hs1.wi.door).1 hpn
 have hix2:∃k2,q0p d1.flows c.ins c.out=some k2∧Flw.at d1 k2=g:=by
  have:(q0p d1.flows c.ins c.out).isSome=true:=qg6.2 ⟨g,hg1,hgo.1,hgo.2⟩
  obtain⟨k2,hk2⟩:=Option.isSome_iff_exists.1 this
  obtain⟨f',f1,f2,f3,_⟩:=q2k hk2
  have:f'=g:=q99 hs1.wi.door (List.mem_of_getElem? f1) hg1 (by rw[f2,hgo.1]) (by rw[f3,hgo.2])
  exact⟨k2,hk2,by rw[←this];simp[Flw.at,List.getD,f1]⟩
 obtain⟨k2,hk2,hat2⟩:=hix2
 have hc3:carry { w with door:=d1,convs:=w.convs.set i { c with upGot:=sOut g.up } } ⟨2,c.out,⟨9,portOf d1.map c.ins⟩,(sOut g.up).length,[]⟩=({ w with door:=d1,convs:=w.convs.set i { c with upGot:=sOut g.up } },some ⟨2,c.out,c.ins,c.up.length,[]⟩):=by
  rw[q2v (by simp only[hdoor,Bool.true_or])]
  have hno:(⟨2,c.out,⟨9,portOf d1.map c.ins⟩,(sOut g.up).length,[]⟩:Pk).outward=false:=by simp only[Pk.outward,q1y hout,Bool.false_and]
  have hin:(⟨2,c.out,⟨9,portOf d1.map c.ins⟩,(sOut g.up).length,[]⟩:Pk).inward=true:=by simp only[Pk.inward,hout,hdoor,Bool.and_self]
  simp only[dPass,hno,hin,Bool.false_eq_true,if_false,if_true]
  rw[(q39 (p:=⟨2,c.out,⟨9,portOf d1.map c.ins⟩,(sOut g.up).length,[]⟩) hins2 hk2).2]
  unfold inK
  rw[if_pos rfl,hat2,if_neg (by simp only;omega)]
  have hbk:backP g.up.parts ((sOut g.up).length:Int)=(c.up.length:Nat):=by
   have:=q9n (λp hp=>(q4r p3 p hp).1) (Int.le_refl ((g.up.parts.flatMap (·.text)).length:Int))
   rw[p5] at this
   exact this
  simp only[hbk]
 obtain⟨hs3,hq3⟩:=hs2.carry q0y hq2a hq2b
 have hc3':=hc3
 rw[show(World.mk (w.convs.set i { c with upGot:=sOut g.up }) d1 w.nets)=({ w with door:=d1,convs:=w.convs.set i { c with upGot:=sOut g.up } }:World) from rfl] at hs3 hq3
 rw[hc3] at hs3 hq3
 have hc4:=qj7 (p:=⟨2,c.out,c.ins,c.up.length,[]⟩) hs3.wi hs3.k.1.1 (i:=i) (c:={ c with upGot:=sOut g.up }) (by simp only;exact List.getElem?_set_self hl) rfl rfl
 have e4:through 4 w (some p)=(carry { w with door:=d1,convs:=w.convs.set i { c with upGot:=sOut g.up } } ⟨2,c.out,c.ins,c.up.length,[]⟩).1:=by
  simp only[through,hc1,hc2,hc3]
 rw[e4,hc4]
 refine⟨_,by simp only[List.set_set];exact List.getElem?_set_self hl, ?_⟩
 unfold hear
 simp only[cond_true,decide_true,Bool.and_self,if_true]
 omega
theorem qku {w:World} (hs:SI CK CN w) {i:Nat} {c:Conv} (hc:w.convs[i]?=some c) (hlt:c.downAck<c.down.length) {f:Flw} (hfm:f∈w.door.flows) (hof:Of f c) :
 ∃c',(through 4 w (say c false (portOf w.door.map c.ins) c.downAck 24)).convs[i]?=some c'∧c'.downAck=c'.down.length:=by
 have hcm:=List.mem_of_getElem? hc
 have hl:=(List.getElem?_eq_some_iff.1 hc).1
 obtain⟨⟨hins,hout,_,hsay,_⟩,_,⟨ha0,ha1⟩,_,_⟩:=q0e.1 (hs.wi.cv c hcm)
 obtain⟨hdn24,_,hheld⟩:=q2y hsay
 obtain⟨k,hk⟩:=List.mem_iff_getElem?.1 hfm
 have hkl:=(List.getElem?_eq_some_iff.1 hk).1
 obtain⟨hany,_,hu,hdn,_⟩:=q1d hs.wi.door hk
 have hdm:=(q07.1 hs.wi.door).1
 have hpn:portOf w.door.map c.ins≠0:=(q77 hdm c.ins).2 (by rw[←hof.1];exact hany)
 have hdoor:(⟨9,portOf w.door.map c.ins⟩:E).door=true:=q4x hdm hpn
 have hsp:say c false (portOf w.door.map c.ins) c.downAck 24=some ⟨1,c.out,⟨9,portOf w.door.map c.ins⟩,c.downAck,c.down.drop c.downAck.toNat⟩:=by
  unfold say
  simp only[Bool.false_eq_true,if_false,Bool.false_or]
  rw[if_pos (by simp only[Bool.and_eq_true,within_iff,decide_eq_true_eq];exact⟨by omega,hdoor⟩)]
  rw[List.take_of_length_le (by simp;omega)]
 rw[hsp]
 have hnet:=q2x hcm (hs.wi.cv c hcm) hsp
 have hN:=q0y.say w c false _ _ _ _ hs.wi hs.k hcm (λ_=>rfl) hsp
 generalize hp:(⟨1,c.out,⟨9,portOf w.door.map c.ins⟩,c.downAck,c.down.drop c.downAck.toNat⟩:Pk)=p at *
 have hfrm:p.frm=c.out:=by rw[←hp]
 have hto:p.to=⟨9,portOf w.door.map c.ins⟩:=by rw[←hp]
 have hkind:p.kind=1:=by rw[←hp]
 have hat:p.at_=c.downAck:=by rw[←hp]
 have htext:p.text=c.down.drop c.downAck.toNat:=by rw[←hp]
 clear hp
 have hno:p.outward=false:=by simp only[Pk.outward,hfrm,q1y hout,Bool.false_and]
 have hin:p.inward=true:=by simp only[Pk.inward,hfrm,hto,hout,hdoor,Bool.and_self]
 have hixx:∀(d:Door),doorOk d=true→∀g∈d.flows,Of g c→∃k2,q0p d.flows c.ins c.out=some k2∧Flw.at d k2=g∧d.flows[k2]?=some g:=λd hd g hg hgo=>by
  have:(q0p d.flows c.ins c.out).isSome=true:=qg6.2 ⟨g,hg,hgo.1,hgo.2⟩
  obtain⟨k2,hk2⟩:=Option.isSome_iff_exists.1 this
  obtain⟨f',f1,f2,f3,_⟩:=q2k hk2
  have:f'=g:=q99 hd (List.mem_of_getElem? f1) hg (by rw[f2,hgo.1]) (by rw[f3,hgo.2])
  subst this
  exact⟨k2,hk2,by simp[Flw.at,List.getD,f1],f1⟩
 obtain⟨k,hk1,hk2,hk3⟩:=hixx w.door hs.wi.door f hfm hof
 have hkl:=(List.getElem?_eq_some_iff.1 hk3).1
 have hdi:=(q39 (p:=p) (show q0j w.door.map p.to.p=some c.ins by rw[hto];exact q75 hdm hpn) (by rw[hfrm];exact hk1)).2
 have hc1:carry w p=({ w with door:=(dIn w.door p).1 },(dIn w.door p).2):=by
  rw[q2v (by rw[hto,hdoor];rfl)]
  simp only[dPass,hno,hin,Bool.false_eq_true,if_false,if_true]
 obtain⟨hs1,hq1⟩:=hs.carry q0y hnet hN
 rw[hc1] at hs1 hq1
 rw[hdi] at hs1 hq1 hc1
 have htr:=(hs.k.1.2 c hcm).1 _ hfm hof
 have hack:c.downAck≤f.down.inn.length:=by
  have h1:=q60 (λp hp=>(q4r hdn p hp).1) c.downGot.length
  have h2:=(q26 hdn).1
  rw[q2r] at h2
  have:=htr.downAck
  omega
 obtain⟨p1,p2,p3,p4,p5⟩:=qez (m:=w.door.map) (out:=false) hdm hdn (hs.k.2.1 _ hfm).2 htr.downIn hsay ha0 hack hlt
 have hpe:put w.door.map f.down c.downAck (c.down.drop c.downAck.toNat) false=put w.door.map f.down p.at_ p.text false:=by rw[hat,htext]
 rw[hpe] at p1 p2 p3 p4 p5
 have hsend:=qct (was:=f.down) (p:=p) p3 p2 p5 p4 (by rw[htext,hat]) (by rw[hat];exact ha0) (by rw[hat];exact hlt)
 have hout1:inK w.door k c.ins p=(⟨w.door.map,w.door.flows.set k { f with down:=(put w.door.map f.down p.at_ p.text false).2.1 }⟩,
  some { p with to:=c.ins,at_:=q0s (put w.door.map f.down p.at_ p.text false).2.1.parts p.at_,text:=(sOut (put w.door.map f.down p.at_ p.text false).2.1).drop (q0s (put w.door.map f.down p.at_ p.text false).2.1.parts p.at_).toNat }):=by
  unfold inK
  rw[if_neg (by omega),hk2,p1,if_neg (by decide),hsend]
  rfl
 rw[hout1] at hs1 hq1 hc1
 simp only at hs1 hq1 hc1
 generalize (put w.door.map f.down p.at_ p.text false).2.1=s' at *
 generalize hd1:(⟨w.door.map,w.door.flows.set k { f with down:=s' }⟩:Door)=d1 at *
 have hg1:({ f with down:=s' }:Flw)∈d1.flows:=by rw[←hd1];exact List.mem_set hkl _
 generalize hgg:({ f with down:=s' }:Flw)=g at *
 have hgo:Of g c:=by rw[←hgg];exact hof
 have hgu:g.down=s':=by rw[←hgg]
 have hmd:d1.map=w.door.map:=by rw[←hd1]
 rw[←hgu] at p2 p3 p4 p5 hq1 hc1
 clear hd1 hgg hout1 hsend p1 hpe htr hack hN hnet hdi
 have htr1:=(hs1.k.1.2 c hcm).1 g hg1 hgo
 have hle:=qdh (λp hp=>(q4r p3 p hp).1) (by omega) htr1.downAck
 have hfr:=q1v (l:=g.down.parts) c.downAck
 rw[hat] at hq1 hc1
 have hb:=q6g htr1.downGot hfr.1 hle p4
 have hc2:=qj7 (p:={ p with to:=c.ins,at_:=q0s g.down.parts c.downAck,text:=(sOut g.down).drop (q0s g.down.parts c.downAck).toNat }) hs1.wi hs1.k.1.1 (i:=i) (c:=c) hc rfl hfrm
 have hh2:hear c true { p with to:=c.ins,at_:=q0s g.down.parts c.downAck,text:=(sOut g.down).drop (q0s g.down.parts c.downAck).toNat }=({ c with downGot:=sOut g.down },some ⟨2,c.ins,c.out,(sOut g.down).length,[]⟩):=by
  unfold hear
  simp only[hfrm,hkind,hb,cond_true,decide_true,Bool.and_self,if_true]
  rfl
 rw[hh2] at hc2
 obtain⟨hq1a,hq1b⟩:=hq1 _ rfl
 obtain⟨hs2,hq2⟩:=hs1.carry q0y hq1a hq1b
 rw[hc2] at hs2 hq2
 obtain⟨hq2a,hq2b⟩:=hq2 _ rfl
 obtain⟨k2,j1,j2,j3⟩:=hixx d1 hs1.wi.door g hg1 hgo
 have hj:(q0u d1 c.ins c.out)=(d1,k2,true):=q5d j1
 have hc3:carry { w with door:=d1,convs:=w.convs.set i { c with downGot:=sOut g.down } } ⟨2,c.ins,c.out,(sOut g.down).length,[]⟩=({ w with door:=d1,convs:=w.convs.set i { c with downGot:=sOut g.down } },some ⟨2,⟨9,portOf d1.map c.ins⟩,c.out,c.down.length,[]⟩):=by
  rw[q2v (by simp only[hins,Bool.or_true])]
  have ho:(⟨2,c.ins,c.out,(sOut g.down).length,[]⟩:Pk).outward=true:=by simp only[Pk.outward,hins,hout,Bool.and_self]
  simp only[dPass,ho,if_true]
  rw[q2f (p:=⟨2,c.ins,c.out,(sOut g.down).length,[]⟩) (by simp only[hj]) (by simp only[hj];exact(List.getElem?_eq_some_iff.1 j3).1)]
  simp only[hj]
  unfold q66
  rw[if_pos rfl,j2,if_neg (by simp only;omega)]
  have hbk:backP g.down.parts ((sOut g.down).length:Int)=(c.down.length:Nat):=by
   have:=q9n (λp hp=>(q4r p3 p hp).1) (Int.le_refl ((g.down.parts.flatMap (·.text)).length:Int))
   rw[p5] at this
   exact this
  simp only[hbk]
 obtain⟨hs3,hq3⟩:=hs2.carry q0y hq2a hq2b
 rw[show(World.mk (w.convs.set i { c with downGot:=sOut g.down }) d1 w.nets)=({ w with door:=d1,convs:=w.convs.set i { c with downGot:=sOut g.down } }:World) from rfl] at hs3 hq3
 rw[hc3] at hs3 hq3
 have hc4:=qfb (p:=⟨2,⟨9,portOf d1.map c.ins⟩,c.out,c.down.length,[]⟩) hs3.wi hs3.k.1.1 (i:=i) (c:={ c with downGot:=sOut g.down }) (by simp only;exact List.getElem?_set_self hl) rfl rfl (by simp only;rw[hmd];exact hpn)
 have e4:through 4 w (some p)=(carry { w with door:=d1,convs:=w.convs.set i { c with downGot:=sOut g.down } } ⟨2,⟨9,portOf d1.map c.ins⟩,c.out,c.down.length,[]⟩).1:=by
  simp only[through,hc1,hc2,hc3]
 rw[e4,hc4]
 refine⟨_,by simp only[List.set_set];exact List.getElem?_set_self hl, ?_⟩
 have hd9:(⟨9,portOf d1.map c.ins⟩:E).door=true:=by rw[hmd];exact hdoor
 unfold hear
 simp only[cond_false,hd9,decide_true,Bool.and_self,if_true]
 omega
def DoneC (c:Conv):Prop:=c.upAck=c.up.length∧(c.up≠[]→c.downAck=c.down.length)
theorem DoneC.ext {c d:Conv} (h:DoneC c) (hx:CExt c d) (hd:convOk d=true):DoneC d:=by
 obtain⟨_,h1,h2,_⟩:=q0e.1 hd
 have e1:=hx.up
 have e2:=hx.down
 refine⟨?_,λhu=>?_⟩
 ·have:=hx.upAck
  have:=h.1
  rw[e1] at h1 ⊢
  omega
 ·have:=hx.downAck
  have:=h.2 (by rw[←e1];exact hu)
  rw[e2] at h2 ⊢
  omega
theorem qms {w:World} (hs:SI CK CN w) {c:Conv} (hcm:c∈w.convs) (h:c.upAck≠0):∃f∈w.door.flows,Of f c:=by
 refine Classical.byContradiction λhn=>h ?_
 exact((hs.k.1.2 c hcm).2 λf hf ho=>hn ⟨f,hf,ho⟩).2.2.1
theorem qbk {w:World} (hs:SI CK CN w) {i:Nat} {c:Conv} (hc:w.convs[i]?=some c) (hmap:w.door.map.length≤7):∃d,(sayRound w i).convs[i]?=some d∧DoneC d:=by
 have hcm:=List.mem_of_getElem? hc
 have hco:=q0e.1 (hs.wi.cv c hcm)
 have h1:=hs.through q0y 4 (o:=say c true 0 c.upAck 24) λp hp=>⟨q2x hcm (hs.wi.cv c hcm) hp,q0y.say w c true 0 _ _ p hs.wi hs.k hcm (λh=>by cases h) hp⟩
 have hx1:=q15 4 w (say c true 0 c.upAck 24)
 have hup:∃c',(through 4 w (say c true 0 c.upAck 24)).convs[i]?=some c'∧c'.upAck=c'.up.length:=by
  by_cases hlt:c.upAck<c.up.length
  ·exact qu2 hs hc hlt hmap
  ·have hno:say c true 0 c.upAck 24=none:=by
    unfold say
    simp only[if_true,Bool.true_or,Bool.and_true]
    rw[if_neg (by simp only[Bool.and_eq_true,within_iff,decide_eq_true_eq];omega)]
   rw[hno]
   exact⟨c,hc,by omega⟩
 have e:sayRound w i=match(through 4 w (say c true 0 c.upAck 24)).convs[i]? with
  | none=>through 4 w (say c true 0 c.upAck 24)
  | some c1=>through 4 (through 4 w (say c true 0 c.upAck 24)) (say c1 false (portOf (through 4 w (say c true 0 c.upAck 24)).door.map c1.ins) c1.downAck 24):=by
  unfold sayRound
  rw[hc]
  rfl
 rw[e]
 generalize through 4 w (say c true 0 c.upAck 24)=w1 at *
 obtain⟨c1,hc1,hup1⟩:=hup
 rw[hc1]
 simp only
 have hcm1:=List.mem_of_getElem? hc1
 have hco1:=q0e.1 (h1.wi.cv c1 hcm1)
 have h2:=h1.through q0y 4 (o:=say c1 false (portOf w1.door.map c1.ins) c1.downAck 24) λp hp=>⟨q2x hcm1 (h1.wi.cv c1 hcm1) hp,q0y.say w1 c1 false _ _ _ p h1.wi h1.k hcm1 (λ_=>rfl) hp⟩
 have hx2:=q15 4 w1 (say c1 false (portOf w1.door.map c1.ins) c1.downAck 24)
 have hl1:=(List.getElem?_eq_some_iff.1 hc1).1
 by_cases hd:c1.up≠[]∧c1.downAck<c1.down.length
 ·obtain⟨f,hf,ho⟩:=qms h1 hcm1 (by
   rw[hup1]
   have:=List.length_pos_iff.2 hd.1
   omega)
  obtain⟨d,hd1,hd2⟩:=qku h1 hc1 hd.2 hf ho
  have hce:=hx2.cv i c1 d hc1 hd1
  have hdk:=q0e.1 (h2.wi.cv d (List.mem_of_getElem? hd1))
  refine⟨d,hd1, ?_,λ_=>hd2⟩
  have:=hce.upAck
  have e1:=hce.up
  rw[e1] at hdk ⊢
  omega
 ·have hl2:i<(through 4 w1 (say c1 false (portOf w1.door.map c1.ins) c1.downAck 24)).convs.length:=by rw[hx2.len];exact hl1
  have hg:=zE hl2
  refine⟨_,hg,DoneC.ext ⟨hup1,λhu=>?_⟩ (hx2.cv i c1 _ hc1 hg) (h2.wi.cv _ (List.mem_of_getElem? hg))⟩
  have:=hd
  simp only[not_and,Int.not_lt] at this
  have:=this hu
  omega
theorem qd6:∀(n:Nat) {w:World},SI CK CN w→((List.range n).foldl sayRound w).door.map.length≤7→∀i,i<n→∀c,((List.range n).foldl sayRound w).convs[i]?=some c→DoneC c
 | 0,_,_,_,i,hi,_,_=>by omega
 | n+1,w,hs,hm,i,hi,c,hc=>by
   rw[List.range_succ,List.foldl_append] at hm hc
   simp only[List.foldl_cons,List.foldl_nil] at hm hc
   have h1:=SI.says q0y (List.range n) hs
   have hx:=q7u ((List.range n).foldl sayRound w) n
   have hm1:((List.range n).foldl sayRound w).door.map.length≤7:=by
    obtain⟨y,hy⟩:=hx.map
    rw[hy,zA] at hm
    omega
   have h2:=h1.sayRound q0y n
   have ih:=qd6 n hs hm1
   generalize (List.range n).foldl sayRound w=v at *
   have hlc:=(List.getElem?_eq_some_iff.1 hc).1
   rw[hx.len] at hlc
   have hg:=zE hlc
   by_cases hin:i=n
   ·subst hin
    obtain⟨d,hd,hdone⟩:=qbk h1 hg hm1
    rw[hc] at hd;cases hd
    exact hdone
   ·exact(ih i (by omega) _ hg).ext (hx.cv i _ c hg hc) (h2.wi.cv c (List.mem_of_getElem? hc))
theorem qhb {w:World} (hs:SI CK CN w) (hm:(round w).door.map.length≤7):∀c∈(round w).convs,DoneC c:=by
 intro c hc
 obtain⟨i,hi⟩:=List.mem_iff_getElem?.1 hc
 have h1:=(SI.drain q0y w.nets (w:={ w with nets:=[] }) rfl hs).1
 have e:round w=(List.range (w.nets.foldl (λw p=>through 4 w (some p)) { w with nets:=[] }).convs.length).foldl sayRound (w.nets.foldl (λw p=>through 4 w (some p)) { w with nets:=[] }):=rfl
 rw[e] at hm hi
 generalize w.nets.foldl (λw p=>through 4 w (some p)) { w with nets:=[] }=v at *
 have hl:=(List.getElem?_eq_some_iff.1 hi).1
 rw[(qbs _ v).len] at hl
 exact qd6 v.convs.length h1 hm i hl c hi
theorem q9g {w:World} (hs:SI CK CN w) (hd:∀c∈w.convs,DoneC c) (i:Nat):sayRound w i=w:=by
 unfold sayRound
 split
 ·rfl
 ·rename_i c hc
  have hcm:=List.mem_of_getElem? hc
  obtain⟨h1,h2⟩:=hd c hcm
  have hno:say c true 0 c.upAck 24=none:=by
   unfold say
   simp only[if_true,Bool.true_or,Bool.and_true]
   rw[if_neg (by simp only[Bool.and_eq_true,within_iff,decide_eq_true_eq];omega)]
  have e4:∀v,through 4 v none=v:=λv=>rfl
  simp only[hno,e4,hc]
  cases hsy:say c false (portOf w.door.map c.ins) c.downAck 24 with
  | none=>exact e4 w
  | some p =>
    obtain⟨_,_,h3,h4,_,h6,_⟩:=qjg (hs.wi.cv c hcm) hsy
    simp only[cond_false] at h3 h6
    have hcc:=(q0e.1 (hs.wi.cv c hcm)).1
    have hup:c.up=[]:=Classical.byContradiction λhu=>by have:=h2 hu;omega
    have hdoor:p.to.door=true:=by rw[h3.2.1];exact E.door_iff.2 ⟨rfl,h3.2.2⟩
    have hno2:p.outward=false:=by simp only[Pk.outward,h3.1,q1y hcc.2.1,Bool.false_and]
    have hin2:p.inward=true:=by simp only[Pk.inward,h3.1,hdoor,hcc.2.1,Bool.and_self]
    have hback:q0j w.door.map p.to.p=some c.ins:=by rw[h3.2.1];exact q75 (q07.1 hs.wi.door).1 (by omega)
    have hix:q0p w.door.flows c.ins p.frm=none:=by
     rw[q2z,List.any_eq_false]
     intro f hf
     simp only[q38,Bool.and_eq_true,decide_eq_true_eq,not_and]
     intro e1 e2
     exact hs.k.2.2.2 c hcm hup f hf ⟨e1,by rw[e2,h3.1]⟩
    have hcr:carry w p=(w,none):=by
     rw[q2v (by rw[hdoor];rfl)]
     simp only[dPass,hno2,hin2,Bool.false_eq_true,if_false,if_true,q3p hback hix]
    simp only[through,hcr]
theorem q9v:∀(l:List Nat) {w:World},SI CK CN w→(∀c∈w.convs,DoneC c)→l.foldl sayRound w=w
 | [],_,_,_=>rfl
 | i::l,w,hs,hd=>by rw[List.foldl_cons,q9g hs hd];exact q9v l hs hd
theorem qei {w:World} (hs:SI CK CN w) (hn:w.nets=[]) (hd:∀c∈w.convs,DoneC c):round w=w:=by
 have e:({ w with nets:=[] }:World)=w:=by rw[←hn]
 unfold round
 rw[hn]
 simp only[List.foldl_nil,e]
 exact q9v _ hs hd
theorem q9r:∀(a b:Nat) (w:World),rounds (a+b) w=rounds b (rounds a w)
 | 0,b,w=>by rw[zZ];rfl
 | a+1,b,w=>by
   rw[show a+1+b=(a+b)+1 by omega]
   exact q9r a b (round w)
theorem qhx {w:World} (hs:SI CK CN w) {n:Nat} (hn:0<n) (hm:(rounds n w).door.map.length≤7):(∀c∈(rounds n w).convs,DoneC c)∧(rounds n w).nets=[]:=by
 have e:rounds n w=round (rounds (n - 1) w):=by
  have:=q9r (n - 1) 1 w
  rw[show n - 1+1=n by omega] at this
  exact this
 rw[e] at hm ⊢
 exact⟨qhb (hs.rounds q0y _) hm,qh5 _⟩
theorem q36 (c:UInt8):∀t:B,q0a c t≠[]
 | []=>by simp[q0a]
 | x::r=>by
   unfold q0a
   split
   ·simp
   ·split<;>simp
theorem q4z {c x:UInt8} {r h:B} {t:List B} (hx:x≠c) (hr:q0a c r=h::t):q0a c (x::r)=(x::h)::t:=by
 rw[q0a,if_neg hx,hr]
theorem q1f (c:UInt8) (r:B):∀s:B,q0a c (s++c::r)=q0a c s++q0a c r
 | []=>by simp[q0a]
 | x::s=>by
   have ih:=q1f c r s
   by_cases hx:x=c
   ·rw[List.cons_append,q0a,if_pos hx,ih,q0a,if_pos hx]
    rfl
   ·obtain⟨h,t,hs⟩:=List.exists_cons_of_ne_nil (q36 c s)
    rw[List.cons_append,q4z hx hs,q4z hx (h:=h) (t:=t++q0a c r) (by rw[ih,hs];rfl)]
    rfl
theorem q1n {c:UInt8}:∀ {l:B},c∉l→q0a c l=[l]
 | [],_=>rfl
 | x::l,h=>by
   have ih:=q1n (c:=c) (l:=l) λhm=>h (List.mem_cons_of_mem _ hm)
   rw[q4z (λe=>h (by simp[e])) ih]
def Ended (t:B):Prop:=t=[]∨∃s,t=s++[10]
theorem Ended.cut {t:B} (h:Ended t) (r:B):(q0a 10 (t++r)).dropLast=(q0a 10 t).dropLast++(q0a 10 r).dropLast:=by
 rcases h with rfl|⟨s,rfl⟩
 ·simp[q0a]
 ·have e1:s++[10]++r=s++10::r:=by simp
  rw[e1,q1f,q1f]
  rw[List.dropLast_append_of_ne_nil (q36 10 r)]
  simp[q0a]
theorem q8g:∀(a b:List B) (w:World),q0l w (a++b)=((q0l (q0l w a).1 b).1,(q0l w a).2++(q0l (q0l w a).1 b).2)
 | [],b,w=>by simp[q0l]
 | l::a,b,w=>by
   simp only[List.cons_append,q0l]
   rw[q8g a b]
   simp
theorem q6u {up down t:B} {w:World} (hw:q0z [q1j up down]=some w) (ht:Ended t) (r:B) (hl:(t++r).length≤600) :
 q10 up down (t++r)=(q0l w (q0a 10 t).dropLast).2++((q0l (q0l w (q0a 10 t).dropLast).1 (q0a 10 r).dropLast).2++q2g (q0l (q0l w (q0a 10 t).dropLast).1 (q0a 10 r).dropLast).1):=by
 unfold q10
 rw[hw]
 simp only
 rw[if_neg (by omega),ht.cut r,q8g]
 simp
def qd2:B:=[99,97,108,109]
theorem qel (w:World):q23 w qd2=(round w,[]):=by
 have h:q0a 32 qd2=[qd2]:=by decide
 unfold q23
 rw[h]
 rfl
theorem qka {s t:B} (h:s <+: t):∀e∈q18 (pieces s),e∈q18 (pieces t):=λe he=>by
 obtain⟨x,rfl⟩:=h
 rw[q7l]
 simp only[q18,List.filter_append,List.map_append,List.mem_append] at he ⊢
 exact .inl he
theorem few {α:Type} [BEq α] [LawfulBEq α]:∀(l L:List α),l.Nodup→(∀x∈l,x∈L)→l.length≤L.length
 | [],_,_,_=>Nat.zero_le _
 | x::l,L,hn,h=>by
   rw[List.nodup_cons] at hn
   have hx:=h x (by simp)
   have:=few l (L.erase x) hn.2 λy hy=>(List.mem_erase_of_ne (λe=>hn.1 (by rw[←e];exact hy))).2 (h y (List.mem_cons_of_mem _ hy))
   rw[List.length_erase_of_mem hx] at this
   have:=List.length_pos_of_mem hx
   simp only[zC]
   omega
structure NetX (X:List (E×E)) (cs:List Conv) (p:Pk):Prop where
 pk:PkP p
 c:p.frm.inside=true→(∃c∈cs,p.frm=c.ins∧p.to=c.out)∨(p.frm,p.to)∈X
structure WX (X:List (E×E)) (w:World):Prop where
 cv:∀c∈w.convs,convOk c=true
 cl:w.convs.length≤2
 xl:X.length≤1
 door:doorOk w.door=true
 fl:∀f∈w.door.flows,(∃c∈w.convs,f.ins=c.ins∧f.out=c.out)∨(f.ins,f.out)∈X
 nl:w.nets.length≤10
 net:∀p∈w.nets,NetX X w.convs p
variable {X:List (E×E)}
theorem NetP.x {cs:List Conv} {p:Pk} (h:NetP cs p):NetX X cs p:=⟨h.pk,λhi=>.inl (h.c hi)⟩
theorem WI.x {w:World} (h:WI w):WX [] w:=⟨h.cv,h.cl,by simp,h.door,λf hf=>.inl (h.fl f hf),h.nl,λp hp=>(h.net p hp).x⟩
theorem WX.flows3 {w:World} (h:WX X w):w.door.flows.length≤3:=by
 have hn:(w.door.flows.map λf=>(f.ins,f.out)).Nodup:=by
  unfold List.Nodup
  rw[List.pairwise_iff_getElem]
  intro i j hi hj hij
  simp only[List.length_map] at hi hj
  simp only[List.getElem_map,ne_eq,Prod.mk.injEq]
  exact q3x h.door i j _ _ hij (zE hi) (zE hj)
 have:=few (w.door.flows.map λf=>(f.ins,f.out)) (w.convs.map (λc=>(c.ins,c.out))++X) hn λx hx=>by
  obtain⟨f,hf,rfl⟩:=List.mem_map.1 hx
  rcases h.fl f hf with⟨c,hc,h1,h2⟩|hX
  ·exact List.mem_append_left _ (List.mem_map.2 ⟨c,hc,by rw[h1,h2]⟩)
  ·exact List.mem_append_right _ hX
 have h1:=h.cl
 have h2:=h.xl
 simp only[List.length_map,zA] at this
 omega
theorem qfv {cs:List Conv} {i:Nat} {c x:Conv} (hi:cs[i]?=some c) (h1:x.ins=c.ins) (h2:x.out=c.out) {a b:E} (h:∃c∈cs,a=c.ins∧b=c.out):∃c∈cs.set i x,a=c.ins∧b=c.out:=by
 obtain⟨c',hc',h3,h4⟩:=h
 obtain⟨j,hj⟩:=List.mem_iff_getElem?.1 hc'
 by_cases hij:i=j
 ·subst hij
  rw[hi] at hj;cases hj
  have hl:=(List.getElem?_eq_some_iff.1 hi).1
  exact⟨x,List.mem_set hl x,by rw[h3,h1],by rw[h4,h2]⟩
 ·exact⟨c',List.mem_iff_getElem?.2 ⟨j,by rw[List.getElem?_set_ne hij];exact hj⟩,h3,h4⟩
theorem NetX.set {cs:List Conv} {i:Nat} {c x:Conv} {p:Pk} (hi:cs[i]?=some c) (h1:x.ins=c.ins) (h2:x.out=c.out) (h:NetX X cs p):NetX X (cs.set i x) p :=
 ⟨h.pk,λhin=>(h.c hin).imp (qfv hi h1 h2) id⟩
theorem WX.setC {w:World} (h:WX X w) {i:Nat} {c x:Conv} (hi:w.convs[i]?=some c) (h1:x.ins=c.ins) (h2:x.out=c.out) (hx:convOk x=true):WX X { w with convs:=w.convs.set i x }:=by
 refine⟨λy hy=>?_,by simpa using h.cl,h.xl,h.door,λf hf=>(h.fl f hf).imp (qfv hi h1 h2) id,h.nl,λp hp=>(h.net p hp).set hi h1 h2⟩
 rcases List.mem_or_eq_of_mem_set hy with hy|rfl
 ·exact h.cv y hy
 ·exact hx
theorem qs9 {cs:List Conv} {d:Door} {p q:Pk} (hd:doorOk d=true) (hp:PkP p) (h:(dPass d p).2=some q):NetX X cs q:=by
 unfold dPass at h
 split at h
 ·rename_i ho
  simp only[Pk.outward,Bool.and_eq_true] at ho
  cases hok:(q0u d p.frm p.to).2.2 with
  | false=>rw[q45 hok] at h;cases h
  | true =>
    have hx:=q2q hd ho.1 ho.2 hok
    rw[q2f hok hx.kl] at h
    obtain⟨h1,h2,_⟩:=qja hx.ok hx.kl hp h
    exact⟨h1,λhin=>by rw[h2] at hin;cases hin⟩
 ·split at h
  ·rename_i hi
   simp only[Pk.inward,Bool.and_eq_true] at hi
   cases h1:q0j d.map p.to.p with
   | none=>rw[q46 h1] at h;cases h
   | some i =>
     cases h2:q0p d.flows i p.frm with
     | none=>rw[q3p h1 h2] at h;cases h
     | some k =>
       obtain⟨hk,he⟩:=q39 h1 h2
       rw[he] at h
       obtain⟨h3,h4,_⟩:=qr5 hd hk hp h
       exact⟨h3,λhin=>by rw[h4,q1y hi.1] at hin;cases hin⟩
  ·cases h
theorem q9e {w:World} {p:Pk} (h:WX X w) (hp:NetX X w.convs p):WX X (carry w p).1∧∀q,(carry w p).2=some q→NetX X (carry w p).1.convs q:=by
 unfold carry
 split
 ·refine⟨⟨h.cv,h.cl,h.xl,(qbq h.door hp.pk).1,λf hf=>?_,h.nl,h.net⟩,λq hq=>qs9 h.door hp.pk hq⟩
  simp only at hf
  unfold dPass at hf
  split at hf
  ·rename_i ho
   simp only[Pk.outward,Bool.and_eq_true] at ho
   rcases q7e f hf with⟨h1,h2⟩|⟨g,hg,h1,h2⟩
   ·rw[h1,h2];exact hp.c ho.1
   ·rw[h1,h2];exact h.fl g hg
  ·split at hf
   ·obtain⟨g,hg,h1,h2⟩:=q8j f hf
    rw[h1,h2];exact h.fl g hg
   ·exact h.fl f hf
 ·split
  ·exact⟨h,λq hq=>by cases hq⟩
  ·rename_i i b hb
   obtain⟨c,hc,hbe⟩:=q90 hb
   simp only[hc]
   have hcv:=h.cv c (List.mem_of_getElem? hc)
   obtain⟨s1,s2,_,_⟩:=q49 c b p
   refine⟨h.setC hc s1 s2 (qbt hcv hp.pk),λq hq=>?_⟩
   obtain⟨h1,h2,h3,h4,h5⟩:=q74 hcv hp.pk hq
   refine NetX.set hc s1 s2 ⟨h1,λhin=>?_⟩
   have hcc:=q0e.1 hcv
   cases b with
   | true=>exact .inl ⟨c,List.mem_of_getElem? hc,by rw[h3];exact h5.2,by rw[h4];exact h5.1⟩
   | false =>
     rw[h3] at hin
     simp only[cond_false] at h5
     rw[h5.1,q1y hcc.1.2.1] at hin
     cases hin
theorem WX.erase {w:World} (h:WX X w) (k:Nat):WX X { w with nets:=w.nets.eraseIdx k } :=
 ⟨h.cv,h.cl,h.xl,h.door,h.fl,by have:=List.length_eraseIdx_le w.nets k;have:=h.nl;simp only;omega,λp hp=>h.net p (List.mem_of_mem_eraseIdx hp)⟩
theorem qfi {m:List Pair} {e:E} {p:Pair} (h:p∈(mOut m e).1):p∈m∨p.ins=e:=by
 unfold mOut at h
 split at h
 ·exact .inl h
 ·split at h
  ·exact .inl h
  ·rcases List.mem_append.1 h with h|h
   ·exact .inl h
   ·simp only[List.mem_singleton] at h;subst h;exact .inr rfl
theorem qlq {m:List Pair} {q:Pc} {s:B} {p:Pair} (h:p∈(turn m q s true).1):p∈m∨(q.named=true∧p.ins=q.e):=by
 simp only[turn,cond_true,q0q] at h
 split at h
 ·rename_i hn
  simp only[Bool.and_eq_true] at hn
  generalize hmo:mOut m q.e=r at h
  obtain⟨x,port,ok⟩:=r
  cases ok
  ·exact .inl h
  ·have:p∈(mOut m q.e).1:=by rw[hmo];exact h
   rcases qfi this with h|h
   ·exact .inl h
   ·exact .inr ⟨hn.1,h⟩
 ·exact .inl h
theorem qad:∀ {l:List Pc} {m:List Pair} {s:B} {p:Pair},p∈(turned m l s true).1→p∈m∨p.ins∈q18 l
 | [],_,_,_,h=>.inl h
 | q::l,m,s,p,h=>by
   simp only[turned] at h
   rcases qad h with h|h
   ·rcases qlq h with h|⟨h1,h2⟩
    ·exact .inl h
    ·refine .inr ?_
     simp only[q18,List.filter_cons,h1,if_true,List.map_cons,List.mem_cons]
     exact .inl h2
   ·refine .inr ?_
    simp only[q18,List.mem_map,List.mem_filter] at h ⊢
    obtain⟨q',⟨a,b⟩,c⟩:=h
    exact⟨q',⟨List.mem_cons_of_mem _ a,b⟩,c⟩
theorem qqu {m:List Pair} {s:Strm} {n:Int} {t:B} {p:Pair} (h:p∈(put m s n t true).1):p∈m∨p.ins∈q18 (pieces (put m s n t true).2.1.inn):=by
 unfold put at h ⊢
 by_cases hb:(q0b s.inn n t).2=true
 ·rw[if_pos hb] at h ⊢
  simp only at h ⊢
  rcases qad h with h|h
  ·exact .inl h
  ·refine .inr ?_
   simp only[q18,List.mem_map,List.mem_filter] at h ⊢
   obtain⟨q',⟨a,b⟩,c⟩:=h
   exact⟨q',⟨List.mem_of_mem_drop a,b⟩,c⟩
 ·rw[if_neg hb] at h
  exact .inl h
theorem qj1 {d:Door} {i o:E} {p:Pair} (h:p∈(q0u d i o).1.map):p∈d.map∨p.ins=i:=by
 unfold q0u q43 at h
 split at h
 ·rename_i ho
  split at ho
  ·cases ho;exact .inl h
  ·split at ho
   ·rename_i m k hmo
    split at ho
    ·cases ho
     have:p∈(mOut d.map i).1:=by rw[hmo];exact h
     exact qfi this
    ·cases ho
   ·cases ho
 ·exact .inl h
theorem qlm {d:Door} {p:Pk} (hd:doorOk d=true) (hi:p.frm.inside=true) (ho:p.to.outside=true) {x:Pair} (h:x∈(q5r d p).1.map) :
 x∈d.map∨x.ins=p.frm∨∃g∈(q5r d p).1.flows,g.ins=p.frm∧g.out=p.to∧x.ins∈q18 (pieces g.up.inn):=by
 cases hok:(q0u d p.frm p.to).2.2 with
 | false=>rw[q45 hok] at h;exact .inl h
 | true =>
   have hx:=q2q hd hi ho hok
   rw[q2f hok hx.kl] at h ⊢
   have hmem:x∈(q0u d p.frm p.to).1.map→x∈d.map∨x.ins=p.frm:=qj1
   generalize (q0u d p.frm p.to).1=v at *
   generalize (q0u d p.frm p.to).2.1=k at *
   unfold q66 at h ⊢
   split at h
   ·rename_i h2
    rw[if_pos h2]
    have:x∈v.map:=by split at h<;>exact h
    exact(hmem this).imp id .inl
   ·rename_i h2
    rw[if_neg h2]
    split at h
    ·exact(hmem h).imp id .inl
    ·rename_i hp
     rw[if_neg hp]
     rcases qqu h with h|h
     ·exact(hmem h).imp id .inl
     ·exact .inr (.inr ⟨_,List.mem_set hx.kl _,hx.flow.1,hx.flow.2,h⟩)
def PtK (cs:List Conv) (d:Door):Prop:=∀x∈d.map,∃c∈cs,x.ins=c.ins∨x.ins∈q18 (pieces c.up)
theorem qdo:StepI (λcs d=>TrK cs d∧PtK cs d) TrN where
 say:=λw c up port n m p hw hk hc hport hs=>q5k.say w c up port n m p hw hk.1 hc hport hs
 str:=λw p hw hk hs=>q5k.str w p hw hk.1 hs
 pass:=λw p hw hk hp hn hg=>by
  obtain⟨h1,h2,h3⟩:=q5k.pass w p hw hk.1 hp hn hg
  refine⟨⟨h1,λx hx=>?_⟩,h2,h3⟩
  unfold dPass at hx h1
  split at hx
  ·rename_i ho
   rw[if_pos ho] at h1
   simp only[Pk.outward,Bool.and_eq_true] at ho
   obtain⟨c,hc,e1,e2⟩:=hp.c ho.1
   rcases qlm hw.door ho.1 ho.2 hx with h|h|⟨g,hg,g1,g2,g3⟩
   ·exact hk.2 x h
   ·exact⟨c,hc,.inl (by rw[h,e1])⟩
   ·exact⟨c,hc,.inr (qka ((h1.2 c hc).1 g hg ⟨by rw[g1,e1],by rw[g2,e2]⟩).upIn _ g3)⟩
  ·split at hx
   ·rw[(qeg w.door p).1] at hx
    exact hk.2 x hx
   ·exact hk.2 x hx
 hear:=λw p i b c hw hk hp hn hno hb hc=>by
  obtain⟨h1,h2,h3⟩:=q5k.hear w p i b c hw hk.1 hp hn hno hb hc
  refine⟨⟨h1,λx hx=>?_⟩,h2,h3⟩
  obtain⟨c',hc',h⟩:=hk.2 x hx
  obtain⟨s1,s2,s3,_⟩:=q49 c b p
  have hl:=(List.getElem?_eq_some_iff.1 hc).1
  obtain⟨j,hj⟩:=List.mem_iff_getElem?.1 hc'
  by_cases hij:i=j
  ·subst hij
   rw[hc] at hj;cases hj
   exact⟨_,List.mem_set hl _,by rw[s1,s3];exact h⟩
  ·exact⟨c',List.mem_iff_getElem?.2 ⟨j,by rw[List.getElem?_set_ne hij];exact hj⟩,h⟩
theorem qep:∀(n:Nat) (s:B),s.length≤n→5*(q18 (pcs s)).length≤s.length:=by
 intro n
 induction n with
 | zero =>
   intro s hs
   obtain rfl:s=[]:=List.eq_nil_of_length_eq_zero (by omega)
   simp[qaw,q18]
 | succ n ih =>
   intro s hs
   by_cases hz:s=[]
   ·subst hz;simp[qaw,q18]
   obtain⟨p1,p2,_⟩:=q30 hz
   have hrec:=ih (s.drop (pc1 s).size) (by simp only[List.length_drop];omega)
   rw[List.length_drop] at hrec
   rw[q3c hz]
   cases hn:q19 s with
   | none =>
     have hp:pc1 s=⟨1,false,.zero⟩:=by simp[pc1,hn]
     rw[hp] at hrec ⊢
     simp only[q18,List.filter_cons,Bool.false_eq_true,if_false] at hrec ⊢
     omega
   | some e =>
     have hp:pc1 s=⟨(name e).length,true,e⟩:=by simp[pc1,hn]
     have h5:=qb4 (q2i hn).1
     rw[hp] at hrec p2 ⊢
     simp only[q18,List.filter_cons,if_true,List.map_cons,zC] at hrec p2 ⊢
     omega
theorem q8v {K:List Conv→Door→Prop} {N:List Conv→Door→Pk→Prop} (S:StepI K N) {w:World} (h:SI K N w) (l:B):SI K N (q23 w l).1:=by
 unfold q23
 simp only
 repeat' split
 all_goals first
  | exact h
  | (dsimp only;exact SI.wDo S h _)
  | (dsimp only;exact SI.round S h)
theorem q7a {K:List Conv→Door→Prop} {N:List Conv→Door→Pk→Prop} (S:StepI K N):∀(ls:List B) {w:World},SI K N w→SI K N (q0l w ls).1
 | [],_,h=>h
 | l::ls,_,h=>q7a S ls (q8v S h l)
theorem q7b (w:World) (l:B):Ext w (q23 w l).1:=by
 unfold q23
 simp only
 repeat' split
 all_goals first
  | (dsimp only;exact qtr _ _)
  | (dsimp only;exact qd1 _)
  | exact .same rfl rfl
theorem q95:∀(ls:List B) (w:World),Ext w (q0l w ls).1
 | [],_=>.same rfl rfl
 | l::ls,w=>(q7b w l).trans (q95 ls _)
theorem q7m {up down:B} {w:World} (hw:q0z [q1j up down]=some w) (ls:List B):SI CK CN (q0l w ls).1 :=
 q7a q0y ls (ql2 (cs:=[q1j up down]) (es:=[]) (by simp[q4q,hw]))
theorem qln {up down:B} {w:World} (hw:q0z [q1j up down]=some w) (ls:List B):SI (λcs d=>TrK cs d∧PtK cs d) TrN (q0l w ls).1:=by
 refine q7a qdo ls (qk9 (cs:=[q1j up down]) (es:=[]) qdo (λw0 h0=>?_) (by simp[q4q,hw]))
 obtain⟨h1,h2,h3,_⟩:=q2w h0
 exact⟨⟨q44 h1,λc hc=>⟨λf hf=>(by rw[h3] at hf;cases hf),λ_=>q5a h2 c hc⟩⟩,by rw[h3];intro x hx;cases hx⟩
theorem q91 {up down:B} {w:World} (hw:q0z [q1j up down]=some w) (ls:List B):(q0l w ls).1.convs.length=1:=by
 rw[(q95 ls w).len]
 have h:=(q2w hw).2.1
 unfold q16 at h
 split at h
 ·rename_i h1 h2
  cases h2
  have:=Option.some.inj h
  rw[←this]
  rfl
 ·cases h
theorem qdn {m:List Pair} (hm:mapOk m=true):(m.map (·.ins)).Nodup:=by
 unfold List.Nodup
 rw[List.pairwise_iff_getElem]
 intro i j hi hj hij
 simp only[List.length_map] at hi hj
 simp only[List.getElem_map,ne_eq]
 intro he
 simp only[mapOk,Bool.and_eq_true,decide_eq_true_eq,List.all_eq_true,List.mem_range] at hm
 have h3:=hm.1 j hj
 simp only[q4b,zE hj,Bool.and_eq_true,Bool.not_eq_true',List.any_eq_false] at h3
 exact h3.2 m[i] (List.mem_iff_getElem?.2 ⟨i,by rw[List.getElem?_take,if_pos hij];exact zE hi⟩) (by simpa using he)
theorem qhq {w:World} (h:SI (λcs d=>TrK cs d∧PtK cs d) TrN w) (h1:w.convs.length=1):w.door.map.length≤5:=by
 obtain⟨c,hc⟩:∃c,w.convs=[c]:=by
  match hcs:w.convs,h1 with
  | [c],_=>exact⟨c,rfl⟩
 have hcc:=q0e.1 (h.wi.cv c (by rw[hc];simp))
 have hs:=hcc.1.2.2.1
 simp only[q56,Bool.and_eq_true,decide_eq_true_eq] at hs
 have:=few (w.door.map.map (·.ins)) (c.ins::q18 (pieces c.up)) (qdn (q07.1 h.wi.door).1) λx hx=>by
  obtain⟨p,hp,rfl⟩:=List.mem_map.1 hx
  obtain⟨c',hc',hh⟩:=h.k.2 p hp
  rw[hc] at hc'
  simp only[List.mem_singleton] at hc'
  subst hc'
  rcases hh with hh|hh
  ·rw[hh];simp
  ·exact List.mem_cons_of_mem _ hh
 have hn:=qep _ (body c.up) (Nat.le_refl _)
 rw[←q35,q2r] at hn
 simp only[List.length_map,zC] at this
 omega
theorem qr8 {up down t:B} {w:World} (hw:q0z [q1j up down]=some w) (ht:Ended t) (hl:t.length≤580) :
 q10 up down (t++[99,97,108,109,10,99,97,108,109,10,99,97,108,109,10])=q10 up down (t++[99,97,108,109,10,99,97,108,109,10]):=by
 have c1:(q0a 10 [99,97,108,109,10,99,97,108,109,10,99,97,108,109,10]).dropLast=[qd2,qd2,qd2]:=by decide
 have c2:(q0a 10 [99,97,108,109,10,99,97,108,109,10]).dropLast=[qd2,qd2]:=by decide
 rw[q6u hw ht _ (by simp;omega),q6u hw ht _ (by simp;omega),c1,c2]
 simp only[q0l,qel]
 have hs:=q7m hw (q0a 10 t).dropLast
 have hp:=(qln hw (q0a 10 t).dropLast).round qdo
 have h1:=q91 hw (q0a 10 t).dropLast
 generalize (q0l w (q0a 10 t).dropLast).1=v at *
 have hm:=qhq hp (by rw[(qd1 v).len,h1])
 obtain⟨d1,d2⟩:=qhx hs (n:=1) (by decide) (by show(round v).door.map.length≤7;omega)
 have e:round (round v)=round v:=qei (hs.round q0y) d2 d1
 rw[e,e]
 rfl
theorem qdf (e:E):(32:UInt8)∉e.text:=by
 by_cases h:e.any=true
 ·have key:∀e∈qg7,(32:UInt8)∉e.text:=by decide +kernel
  exact key e (E.any_iff.1 h)
 ·have:e.text=[]:=by unfold E.text;rw[if_neg h]
  rw[this];simp
theorem qi9 (n:Nat) (h:n<100):(32:UInt8)∉q7h n:=by
 have key:∀n:Fin 100,(32:UInt8)∉q7h n:=by decide +kernel
 exact key ⟨n,h⟩
theorem qlt {n:Int} (h:0≤n∧n≤99):q9l (dec n)=n:=by
 have key:∀n:Fin 100,q9l (q7h n)=(n:Nat):=by decide +kernel
 have:=key ⟨n.toNat,by omega⟩
 simp only at this
 unfold dec
 rw[this]
 omega
theorem qn1 {t:B} (h:t.all okB=true):(32:UInt8)∉t:=λhm=>by
 have:=List.all_eq_true.1 h 32 hm
 revert this;decide
def qkp (k:Int):B:=if k=2 then [97,99,107] else [100,97,116,97]
theorem q76 {p:Pk} (h:q48 p=true):(p.frm.any=true∧p.to.any=true∧0≤p.at_∧p.at_≤99)∧((p.kind=1∧p.text.all okB=true∧p.text≠[])∨(p.kind=2∧p.text=[])):=by
 simp only[q48,Bool.and_eq_true,Bool.or_eq_true,decide_eq_true_eq,within_iff,txOk] at h
 obtain⟨⟨⟨h1,h2⟩,h3⟩,h4⟩:=h
 refine⟨⟨h1,h2,h3.1,h3.2⟩, ?_⟩
 rcases h4 with h|h
 ·exact .inl (by simp_all)
 ·exact .inr (by simp_all)
theorem q6v {p:Pk} (h:q48 p=true):q0a 32 (q0f p)=[qkp p.kind,p.frm.text,p.to.text,dec p.at_]++(if p.kind=2 then [] else [p.text]):=by
 obtain⟨⟨h1,h2,h3⟩,h4⟩:=q76 h
 have e1:=q1n (qdf p.frm)
 have e2:=q1n (qdf p.to)
 have e3:q0a 32 (dec p.at_)=[dec p.at_]:=q1n (qi9 p.at_.toNat (by omega))
 unfold q0f
 rw[if_pos h]
 rcases h4 with⟨hk,ht,hne⟩|⟨hk,ht⟩
 ·have e4:=q1n (qn1 ht)
  have hk2:¬p.kind=2:=by omega
  simp only[if_neg hk2,qkp]
  have e0:([100,97,116,97,32]:B)++(p.frm.text++32::(p.to.text++32::(dec p.at_++32::p.text)))=[100,97,116,97]++32::(p.frm.text++32::(p.to.text++32::(dec p.at_++32::p.text))):=rfl
  rw[e0,q1f,q1f,q1f,q1f,e1,e2,e3,e4]
  rfl
 ·simp only[if_pos hk,qkp,List.append_nil]
  have e0:([97,99,107,32]:B)++(p.frm.text++32::(p.to.text++32::dec p.at_))=[97,99,107]++32::(p.frm.text++32::(p.to.text++32::dec p.at_)):=rfl
  rw[e0,q1f,q1f,q1f,e1,e2,e3]
  rfl
def q55 (t:B) (a:Int) (ok:Bool):Option Pk :=
 let ws:=q0a 32 t
 let p:Pk:=⟨if ws.getD 0 []=[100,97,116,97] then 1 else 2,(q08 (ws.getD 1 [])).getD .zero,(q08 (ws.getD 2 [])).getD .zero,a,ws.getD 4 []⟩
 if 70<t.length∨ws.length<4∨5<ws.length then none
 else if(q08 (ws.getD 1 [])).isSome∧(q08 (ws.getD 2 [])).isSome∧ok=true∧q48 p=true∧q0f p=t then some p else none
theorem qd7 {t:B} {p:Pk} (h:q48 p=true) (ht:q0f p=t) (hl:t.length≤70):q14 t=some p:=by
 have hw:=q6v h
 obtain⟨⟨h1,h2,h3⟩,h4⟩:=q76 h
 have d:=qlt h3
 have r1:=q28 h1
 have r2:=q28 h2
 unfold q14
 rw[if_neg (by omega),←ht,hw]
 obtain⟨pk,pf,pt,pa,px⟩:=p
 simp only at h4 d r1 r2 hw ⊢
 rcases h4 with⟨rfl,_,_⟩|⟨rfl,rfl⟩
 ·simp[r1,r2,d]
 ·simp[r1,r2,d]
theorem qa8 {t:B} {p:Pk} (h:q14 t=some p):q0f p=t∧t.length≤70:=by
 unfold q14 at h
 split at h
 ·cases h
 ·rename_i hl
  split at h
  ·simp only at h
   split at h
   ·rename_i e;cases h;exact⟨e,by omega⟩
   ·cases h
  ·simp only at h
   split at h
   ·rename_i e;cases h;exact⟨e,by omega⟩
   ·cases h
  ·cases h
theorem q9w {p:Pk} {t:B} (h:q0f p=t) (ht:t≠[]):q48 p=true:=by
 cases hp:q48 p with
 | true=>rfl
 | false=>unfold q0f at h;rw[hp,if_neg (by simp)] at h;exact absurd h.symm ht
theorem qed {t:B} {a:Int} {ok:Bool} (ha:∀n:Int,0≤n→n≤99→(q0a 32 t).getD 3 []=dec n→a=n∧ok=true):q55 t a ok=q14 t:=by
 cases h:q14 t with
 | some p =>
   obtain⟨e,hl⟩:=qa8 h
   have hne:t≠[]:=λh0=>by
    subst h0
    revert h
    simp[q14,q0a]
   have hp:=q9w e hne
   have hw:=q6v hp
   obtain⟨⟨h1,h2,h3⟩,h4⟩:=q76 hp
   have r1:=q28 h1
   have r2:=q28 h2
   rw[e] at hw
   have h5:=ha p.at_ h3.1 h3.2 (by rw[hw];rfl)
   obtain⟨rfl,rfl⟩:=h5
   unfold q55
   rw[hw]
   obtain⟨pk,pf,pt,pa,px⟩:=p
   simp only at h4 r1 r2 e hp ⊢
   rcases h4 with⟨rfl,_,_⟩|⟨rfl,rfl⟩
   ·have hk:qkp 1=[100,97,116,97]:=by decide
    simp[hk,r1,r2,hp,e,hl]
   ·have hk:¬qkp 2=[100,97,116,97]:=by decide
    simp[hk,r1,r2,hp,e,hl]
 | none =>
   unfold q55
   simp only
   generalize (if(q0a 32 t).getD 0 []=[100,97,116,97] then(1:Int) else 2)=kd
   split
   ·rfl
   ·rename_i hl
    split
    ·rename_i hc
     obtain⟨_,_,_,c4,c5⟩:=hc
     have:=qd7 c4 c5 (by omega)
     rw[h] at this;cases this
    ·rfl
theorem q6j {α:Type} {P:α→Bool} {l:List α} {k:Nat} (hk:k<l.length) (h:(l.take k).any P=false) (hp:P l[k]=false):(l.take (k+1)).any P=false:=by
 rw[List.take_add_one,zE hk]
 simp only[Option.toList_some,List.any_append,h,List.any_cons,List.any_nil,Bool.or_false,Bool.false_or,hp]
variable {X:List (E×E)}
variable {X:List (E×E)}
theorem NetX.ext {w v:World} {p:Pk} (h:NetX X w.convs p) (hx:Ext w v):NetX X v.convs p:=⟨h.pk,λhi=>(h.c hi).imp (λ⟨c,hc,h1,h2⟩=>by
 obtain⟨i,hi⟩:=List.mem_iff_getElem?.1 hc
 have hl:i<v.convs.length:=by rw[hx.len];exact(List.getElem?_eq_some_iff.1 hi).1
 have hg:=zE hl
 have hce:=hx.cv i c _ hi hg
 exact⟨_,List.mem_of_getElem? hg,by rw[hce.ins,h1],by rw[hce.out,h2]⟩) id⟩
theorem WX.through:∀(n:Nat) {w:World} {o:Option Pk},WX X w→(∀p,o=some p→NetX X w.convs p)→WX X (M.through n w o)
 | 0,_,_,h,_=>h
 | _+1,_,none,h,_=>h
 | n+1,_,some p,h,ho=>by
   obtain⟨h1,h2⟩:=q9e h (ho p rfl)
   exact WX.through n h1 λq hq=>h2 q hq
theorem WX.drain:∀(l:List Pk) {w:World},WX X w→(∀p∈l,NetX X w.convs p)→WX X (l.foldl (λw p=>M.through 4 w (some p)) w)
 | [],_,h,_=>h
 | p::l,w,h,hl=>by
   have h1:=h.through 4 (o:=some p) λq hq=>by cases hq;exact hl p (by simp)
   exact WX.drain l h1 λq hq=>(hl q (List.mem_cons_of_mem _ hq)).ext (q15 4 w (some p))
theorem WX.sayRound {w:World} (h:WX X w) (i:Nat):WX X (M.sayRound w i):=by
 unfold M.sayRound
 split
 ·exact h
 ·rename_i c hc
  have hcm:=List.mem_of_getElem? hc
  have h1:=h.through 4 (o:=say c true 0 c.upAck 24) λp hp=>(q2x hcm (h.cv c hcm) hp).x
  simp only
  split
  ·exact h1
  ·rename_i c1 hc1
   have hcm1:=List.mem_of_getElem? hc1
   exact h1.through 4 λp hp=>(q2x hcm1 (h1.cv c1 hcm1) hp).x
theorem WX.says:∀(l:List Nat) {w:World},WX X w→WX X (l.foldl M.sayRound w)
 | [],_,h=>h
 | i::l,_,h=>WX.says l (h.sayRound i)
theorem WX.empty {w:World} (h:WX X w):WX X { w with nets:=[] }:=⟨h.cv,h.cl,h.xl,h.door,h.fl,Nat.zero_le _,λp hp=>by cases hp⟩
theorem WX.round {w:World} (h:WX X w):WX X (M.round w):=WX.says _ (WX.drain w.nets (w:={ w with nets:=[] }) h.empty λp hp=>h.net p hp)
end Go.Proofs.YtpnekhiejecipaaGreatDoor.M
namespace Go.Proofs.YtpnekhiejecipaaGreatDoor.VL
open Go Go.RowKit
section
variable {P:Program} {G:Glob}
end
end Go.Proofs.YtpnekhiejecipaaGreatDoor.VL
namespace Go.Proofs.YtpnekhiejecipaaGreatDoor.W
open Go Go.RowKit Go.Proofs Go.Proofs.YtpnekhiejecipaaGreatDoor.VL Go.Proofs.YtpnekhiejecipaaGreatDoor.M
def qy4 (v:Value):Prop:=v=.nilIface∨∃t p,v=.iface t p
def G:Glob where
 g W:=(∃m,W.cell? ⟨0,0,none⟩=some (.int .i64 m))∧(∃v,W.cell? ⟨2,0,none⟩=some v∧qy4 v)∧∃v,W.cell? ⟨3,0,none⟩=some v∧qy4 v
 ng:=4
 stays:=λW W' h hs ho ht hu hb=>by
  have e:∀b,b<4→W'.cell? ⟨b,0,none⟩=W.cell? ⟨b,0,none⟩:=λb hb4=>q4s (hb b hb4)
  rw[e 0 (by omega),e 2 (by omega),e 3 (by omega)]
  exact h
 there:=λW h=>by
  obtain⟨_,_,v,h,_⟩:=h
  have:∃o,W.heap[3]?=some o:=by
   cases hh:W.heap[3]? with
   | none=>simp[World.cell?,hh] at h
   | some o=>exact⟨o,rfl⟩
  obtain⟨o,ho⟩:=this
  have:=q2c ho
  omega
def q6z:V→Option Value
 | .int k n=>some (.int k n)
 | .bool b=>some (.bool b)
 | .str s=>some (.string (mkStr s))
 | .nile=>some .nilIface
 | _=>none
theorem qef {w:World} {O:Nat→Prop} {ρ:Nat→VL.Loc} {h:Nat→Hs} {v:V} {u x:Value} (hp:q6z v=some x) (hd:Den w O ρ h v u):u=x:=by
 cases v<;>simp only[q6z,zS,reduceCtorEq] at hp
 all_goals subst hp
 ·exact q5l hd
 ·exact q6s hd
 ·exact q5n hd
 ·exact qfe hd
theorem q8l {w:World} {O:Nat→Prop} {ρ:Nat→VL.Loc} {h:Nat→Hs} {v:V} {x:Value} (hp:q6z v=some x):Den2 w O ρ h v x:=by
 cases v<;>simp only[q6z,zS,reduceCtorEq] at hp
 all_goals subst hp
 ·exact Imm.int _ _
 ·exact Imm.bool _
 ·exact Imm.str _
 ·exact Imm.nile
def qkz:V→Option Value
 | .tup vs=>(vs.mapM q6z).map λus=>.tuple us.toArray
 | v=>q6z v
theorem qaq {w:World} {O:Nat→Prop} {ρ:Nat→VL.Loc} {h:Nat→Hs} {v:V} {x:Value} (hp:qkz v=some x):Den w O ρ h v x:=by
 by_cases ht:∃vs,v=.tup vs
 ·obtain⟨vs,rfl⟩:=ht
  simp only[qkz,zM] at hp
  obtain⟨us,hm,rfl⟩:=hp
  obtain⟨h1,h2⟩:=q33 hm
  refine⟨us,rfl,h1,λj v u hv hu=>q8l (h2 j v u hv hu)⟩
 ·have hp:q6z v=some x:=by cases v<;>first|exact hp|exact absurd ⟨_,rfl⟩ ht
  have:=q8l (w:=w) (O:=O) (ρ:=ρ) (h:=h) hp
  cases v<;>first|exact this|exact absurd ⟨_,rfl⟩ ht
section
variable {P:Program}
theorem FnP.lib {f:FuncId} {vs:List V} {us:List Value} {post:V→Prop} (hn:entr P f=true) (h1:vs.mapM q6z=some us) (hne:∃r,post r)
 (h:∀W,G.g W→Calls P f us.toArray W λe W'=>Below W.heap.size W W'∧∃u v,e=.returned u∧post v∧∀O,(∀b,O b→b<W.heap.size)→Den W' O (λ_=>default) (λ_=>.fresh) v u) :
 FnP P G f 0 [] vs (λr o=>o=[]∧post r) where
 en:=hn
 ne:=let ⟨r,h⟩:=hne;⟨r,[],rfl,h⟩
 run:=λW ρ ext us' hg hlt hno hng r hargs=>by
  obtain⟨h2,h3⟩:=q33 h1
  have e:us'=us:=by
   obtain⟨h4,h5⟩:=hargs
   apply List.ext_getElem?
   intro j
   cases hj:us'[j]? with
   | none =>
     have:=List.getElem?_eq_none_iff.1 hj
     exact(List.getElem?_eq_none_iff.2 (by omega)).symm
   | some u =>
     have hjl:j<us'.length:=(List.getElem?_eq_some_iff.1 hj).1
     have hv:=zE (l:=vs) (show j<vs.length by omega)
     have hu:=zE (l:=us) (show j<us.length by omega)
     rw[hu,qef (h3 j (vs[j]'(by omega)) (us[j]'(by omega)) hv hu) (h5 j _ u hv hj)]
  subst e
  refine(h W hg).mono λe W' ⟨hb,u,v,he,hp,hd⟩=>?_
  have hc:chH []=λ_=>.fresh:=by funext x;simp[chH]
  have hnb:∀b,¬blocks ρ (chH []) b:=λb ⟨c,hl,_⟩=>by rw[hc] at hl;cases hl
  refine⟨u,v,[],λ_=>default,he,⟨rfl,hp⟩,⟨hb.os,hb.tape,hb.output,hb.size,λb hb1 _=>hb.block b hb1,λc=>(by rw[hc];trivial),λc hl=>(by rw[hc] at hl;cases hl),λc c' hl=>(by rw[hc] at hl;cases hl),λi hi=>absurd hi (Nat.not_lt_zero _)⟩, ?_⟩
  rw[hc]
  refine hd _ λb hb=>?_
  rcases hb with hb|⟨c,hl,_⟩
  ·exact hlt b hb
  ·cases hl
theorem FnR.lib {f:FuncId} {vs:List V} {us:List Value} {v:V} {u:Value} (hn:entr P f=true) (h1:vs.mapM q6z=some us) (h2:qkz v=some u)
 (h:∀W,G.g W→Calls P f us.toArray W λe W'=>e=.returned u∧Below W.heap.size W W'):FnR P G f vs v:=by
 have:=FnP.lib (P:=P) (f:=f) (vs:=vs) (post:=λr=>r=v) hn h1 ⟨v,rfl⟩ λW hg=>(h W hg).mono λe W' ⟨he,hb⟩=>⟨hb,u,v,he,rfl,λO _=>qaq h2⟩
 exact⟨this.en,this.ne.imp λr ⟨o,h⟩=>⟨o,h.2,h.1⟩,λW ρ ext us a b c d e f=>(this.run W ρ ext us a b c d e f).mono λe W' ⟨u,r,o,ρ',he,⟨h1,h2⟩,h3⟩=>⟨u,r,o,ρ',he,⟨h2,h1⟩,h3⟩⟩
end
end Go.Proofs.YtpnekhiejecipaaGreatDoor.W
namespace Go.Proofs.YtpnekhiejecipaaGreatDoor.M
open Go Go.Proofs.YtpnekhiejecipaaGreatDoor.VL
def E.row (e:E):List V:=[.int .i64 e.a,.int .i64 e.p]
def Pc.row (p:Pc):List V:=[.int .i64 p.size,.bool p.named,.int .i64 p.e.a,.int .i64 p.e.p]
def Pair.row (p:Pair):List V:=[.int .i64 p.port,.int .i64 p.ins.a,.int .i64 p.ins.p]
def Part.row (p:Part):List V:=[.int .i64 p.size,.str p.text]
def Strm.row (s:Strm):List V:=[.str s.inn,.sl 2 (s.parts.map Part.row)]
def Flw.row (f:Flw):List V:=[.int .i64 f.ins.a,.int .i64 f.ins.p,.int .i64 f.out.a,.int .i64 f.out.p,.str f.up.inn,.sl 2 (f.up.parts.map Part.row),.str f.down.inn,.sl 2 (f.down.parts.map Part.row)]
def Pk.row (p:Pk):List V:=[.int .i64 p.kind,.int .i64 p.frm.a,.int .i64 p.frm.p,.int .i64 p.to.a,.int .i64 p.to.p,.int .i64 p.at_,.str p.text]
def Door.row (d:Door):List V:=[.sl 3 (d.map.map Pair.row),.sl 8 (d.flows.map Flw.row)]
def Conv.row (c:Conv):List V:=[.int .i64 c.ins.a,.int .i64 c.ins.p,.int .i64 c.out.a,.int .i64 c.out.p,.str c.up,.str c.down,.int .i64 c.upAck,.int .i64 c.downAck,.str c.upGot,.str c.downGot]
def World.row (w:World):List V:=[.sl 10 (w.convs.map Conv.row),.sl 3 (w.door.map.map Pair.row),.sl 8 (w.door.flows.map Flw.row),.sl 7 (w.nets.map Pk.row)]
def Ev.row (e:Ev):List V:=[.int .i64 e.kind,.int .i64 e.a,.int .i64 e.b,.int .i64 e.c,.int .i64 e.pkt.kind,.int .i64 e.pkt.frm.a,.int .i64 e.pkt.frm.p,.int .i64 e.pkt.to.a,.int .i64 e.pkt.to.p,.int .i64 e.pkt.at_,.str e.pkt.text]
def rdV (o:Option E):V:=.tup [.agg [.int .i64 (o.getD .zero).a,.int .i64 (o.getD .zero).p],.bool o.isSome]
def byR (b:UInt8):List V:=[.int .u8 (b.toNat:Int)]
theorem E.eta (e:E):E.mk e.a e.p=e:=by cases e;rfl
theorem Pc.eta (q:Pc):Pc.mk q.size q.named q.e=q:=by cases q;rfl
theorem Pair.eta (q:Pair):Pair.mk q.port q.ins=q:=by cases q;rfl
theorem Part.eta (q:Part):Part.mk q.size q.text=q:=by cases q;rfl
theorem Strm.eta (q:Strm):Strm.mk q.inn q.parts=q:=by cases q;rfl
theorem Pk.eta (q:Pk):Pk.mk q.kind q.frm q.to q.at_ q.text=q:=by cases q;rfl
theorem Flw.eta (q:Flw):Flw.mk q.ins q.out q.up q.down=q:=by cases q;rfl
theorem Conv.eta (q:Conv):Conv.mk q.ins q.out q.up q.down q.upAck q.downAck q.upGot q.downGot=q:=by cases q;rfl
theorem Door.eta (q:Door):Door.mk q.map q.flows=q:=by cases q;rfl
theorem World.eta (q:World):World.mk q.convs q.door q.nets=q:=by cases q;rfl
theorem Ev.eta (q:Ev):Ev.mk q.kind q.a q.b q.c q.pkt=q:=by cases q;rfl
end Go.Proofs.YtpnekhiejecipaaGreatDoor.M
namespace Go.Proofs
open Go.Shelf
def Tryz.lays169_ren:Go.Shelf.Ren:=⟨fun|169=>50|n=>n,fun|70=>87|9=>9|0=>0|72=>89|37=>46|127=>146|3=>3|5=>5|n=>n,fun|n=>n⟩
theorem Tryz.lays169:Go.Proofs.Lays.n169 Tryz.prog Tryz.lays169_ren:={
 mixed:=by kernel_rfl
 f169:=Tryz.func50.trans (congrArg some (by kernel_rfl))
 t0:=Tryz.underlying0
 a0:=Tryz.isAgg0
 z0:=Tryz.sizeOf0
 v0:=Tryz.zeroValue0
 t3:=Tryz.underlying3
 a3:=Tryz.isAgg3
 z3:=Tryz.sizeOf3
 v3:=Tryz.zeroValue3
 t9:=Tryz.underlying9
 a9:=Tryz.isAgg9
 z9:=Tryz.sizeOf9
 v9:=Tryz.zeroValue9
 t37:=Tryz.underlying46
 a37:=Tryz.isAgg46
 z37:=Tryz.sizeOf46
 v37:=Tryz.zeroValue46
 t70:=Tryz.underlying87
 a70:=Tryz.isAgg87
 z70:=Tryz.sizeOf87
 v70:=Tryz.zeroValue87
 t72:=Tryz.underlying89
 a72:=Tryz.isAgg89
 z72:=Tryz.sizeOf89
 v72:=Tryz.zeroValue89
 t127:=Tryz.underlying146
 a127:=Tryz.isAgg146
 z127:=Tryz.sizeOf146
 v127:=Tryz.zeroValue146 }
theorem Tryz.Builder_Extra_169:Builder.Extra Tryz.prog Tryz.lays169_ren:={
 sizeBuilder:=by kernel_rfl
 liesBuilder:=by kernel_rfl
 t5:=Tryz.underlying5
 a5:=Tryz.isAgg5
 z5:=Tryz.sizeOf5
 v5:=Tryz.zeroValue5
 infoByte:=by kernel_rfl
 cellsByte:=by kernel_rfl
 sizeByte:=by kernel_rfl
 neB5:=by decide }
open Go.RowKit in
theorem Tryz.Builder_String_any (B b:Nat) (l:List UInt8) (w:World) (h:Lib.IsBuilder 89 5 B b (Lib.byteCells l) w) (hBw:B≤w.heap.size) :
 Calls Tryz.prog 50 #[.pointer (some ⟨b,0,none⟩)] w λe w'=>e=.returned (.string ⟨l.toArray⟩)∧Below B w w':=Any.Builder_String_any Tryz.lays169 Tryz.Builder_Extra_169 B b l w h hBw
def Tryz.lays156_ren:Go.Shelf.Ren:=⟨fun|156=>153|165=>189|166=>47|169=>50|240=>96|241=>222|276=>145|277=>254|n=>n,fun|31=>98|9=>9|3=>3|4=>4|0=>0|20=>20|72=>89|76=>94|70=>87|37=>46|75=>93|127=>146|164=>177|5=>5|80=>97|n=>n,fun|n=>n⟩
theorem Tryz.lays156:Go.Proofs.Lays.n156 Tryz.prog Tryz.lays156_ren:={
 mixed:=by kernel_rfl
 f156:=Tryz.func153.trans (congrArg some (by kernel_rfl))
 f165:=Tryz.func189.trans (congrArg some (by kernel_rfl))
 f166:=Tryz.func47.trans (congrArg some (by kernel_rfl))
 f169:=Tryz.func50.trans (congrArg some (by kernel_rfl))
 f240:=Tryz.func96.trans (congrArg some (by kernel_rfl))
 f241:=Tryz.func222.trans (congrArg some (by kernel_rfl))
 f276:=Tryz.func145.trans (congrArg some (by kernel_rfl))
 f277:=Tryz.func254.trans (congrArg some (by kernel_rfl))
 t0:=Tryz.underlying0
 a0:=Tryz.isAgg0
 z0:=Tryz.sizeOf0
 v0:=Tryz.zeroValue0
 t3:=Tryz.underlying3
 a3:=Tryz.isAgg3
 z3:=Tryz.sizeOf3
 v3:=Tryz.zeroValue3
 t4:=Tryz.underlying4
 a4:=Tryz.isAgg4
 z4:=Tryz.sizeOf4
 v4:=Tryz.zeroValue4
 t9:=Tryz.underlying9
 a9:=Tryz.isAgg9
 z9:=Tryz.sizeOf9
 v9:=Tryz.zeroValue9
 t20:=Tryz.underlying20
 a20:=Tryz.isAgg20
 z20:=Tryz.sizeOf20
 v20:=Tryz.zeroValue20
 t31:=Tryz.underlying98
 a31:=Tryz.isAgg98
 z31:=Tryz.sizeOf98
 v31:=Tryz.zeroValue98
 t37:=Tryz.underlying46
 a37:=Tryz.isAgg46
 z37:=Tryz.sizeOf46
 v37:=Tryz.zeroValue46
 t70:=Tryz.underlying87
 a70:=Tryz.isAgg87
 z70:=Tryz.sizeOf87
 v70:=Tryz.zeroValue87
 t72:=Tryz.underlying89
 a72:=Tryz.isAgg89
 z72:=Tryz.sizeOf89
 v72:=Tryz.zeroValue89
 t75:=Tryz.underlying93
 a75:=Tryz.isAgg93
 z75:=Tryz.sizeOf93
 v75:=Tryz.zeroValue93
 t76:=Tryz.underlying94
 a76:=Tryz.isAgg94
 z76:=Tryz.sizeOf94
 v76:=Tryz.zeroValue94
 t127:=Tryz.underlying146
 a127:=Tryz.isAgg146
 z127:=Tryz.sizeOf146
 v127:=Tryz.zeroValue146
 t164:=Tryz.underlying177
 a164:=Tryz.isAgg177
 z164:=Tryz.sizeOf177
 v164:=Tryz.zeroValue177 }
theorem Tryz.Builder_Extra_156:Builder.Extra Tryz.prog Tryz.lays156_ren:={
 sizeBuilder:=by kernel_rfl
 liesBuilder:=by kernel_rfl
 t5:=Tryz.underlying5
 a5:=Tryz.isAgg5
 z5:=Tryz.sizeOf5
 v5:=Tryz.zeroValue5
 infoByte:=by kernel_rfl
 cellsByte:=by kernel_rfl
 sizeByte:=by kernel_rfl
 neB5:=by decide }
def Tryz.lays103_ren:Go.Shelf.Ren:=⟨fun|103=>262|210=>268|206=>188|n=>n,fun|9=>9|4=>4|24=>198|3=>3|n=>n,fun|n=>n⟩
theorem Tryz.lays103:Go.Proofs.Lays.n103 Tryz.prog Tryz.lays103_ren:={
 mixed:=by kernel_rfl
 f103:=Tryz.func262.trans (congrArg some (by kernel_rfl))
 f206:=Tryz.func188.trans (congrArg some (by kernel_rfl))
 f210:=Tryz.func268.trans (congrArg some (by kernel_rfl))
 t3:=Tryz.underlying3
 a3:=Tryz.isAgg3
 z3:=Tryz.sizeOf3
 v3:=Tryz.zeroValue3
 t4:=Tryz.underlying4
 a4:=Tryz.isAgg4
 z4:=Tryz.sizeOf4
 v4:=Tryz.zeroValue4
 t9:=Tryz.underlying9
 a9:=Tryz.isAgg9
 z9:=Tryz.sizeOf9
 v9:=Tryz.zeroValue9
 t24:=Tryz.underlying198
 a24:=Tryz.isAgg198
 z24:=Tryz.sizeOf198
 v24:=Tryz.zeroValue198 }
open Go.RowKit in
theorem Tryz.strings_CutPrefix (s p:ByteArray) (w:World) :
 Calls Tryz.prog 262 #[.string s,.string p] w λe w'=>e=.returned (.tuple #[.string ⟨(Lib.trimPrefix s.data.toList p.data.toList).toArray⟩,.bool (Lib.hasPrefix s.data.toList p.data.toList)])∧w'=w:=Any.strings_CutPrefix Tryz.lays103 s p w
def Tryz.lays171_ren:Go.Shelf.Ren:=⟨fun|171=>49|243=>105|246=>154|283=>190|284=>191|285=>192|286=>193|129=>224|317=>223|318=>225|319=>226|320=>227|337=>255|338=>256|n=>n,fun|3=>3|9=>9|2=>2|4=>4|171=>212|0=>0|53=>213|37=>46|5=>5|173=>216|212=>243|51=>231|20=>20|213=>244|46=>207|232=>291|233=>292|n=>n,fun|17=>1|18=>6|19=>7|n=>n⟩
theorem Tryz.lays171:Go.Proofs.Lays.n171 Tryz.prog Tryz.lays171_ren:={
 mixed:=by kernel_rfl
 f129:=Tryz.func224.trans (congrArg some (by kernel_rfl))
 f171:=Tryz.func49.trans (congrArg some (by kernel_rfl))
 f243:=Tryz.func105.trans (congrArg some (by kernel_rfl))
 f246:=Tryz.func154.trans (congrArg some (by kernel_rfl))
 f283:=Tryz.func190.trans (congrArg some (by kernel_rfl))
 f284:=Tryz.func191.trans (congrArg some (by kernel_rfl))
 f285:=Tryz.func192.trans (congrArg some (by kernel_rfl))
 f286:=Tryz.func193.trans (congrArg some (by kernel_rfl))
 f317:=Tryz.func223.trans (congrArg some (by kernel_rfl))
 f318:=Tryz.func225.trans (congrArg some (by kernel_rfl))
 f319:=Tryz.func226.trans (congrArg some (by kernel_rfl))
 f320:=Tryz.func227.trans (congrArg some (by kernel_rfl))
 f337:=Tryz.func255.trans (congrArg some (by kernel_rfl))
 f338:=Tryz.func256.trans (congrArg some (by kernel_rfl))
 t0:=Tryz.underlying0
 a0:=Tryz.isAgg0
 z0:=Tryz.sizeOf0
 v0:=Tryz.zeroValue0
 t2:=Tryz.underlying2
 a2:=Tryz.isAgg2
 z2:=Tryz.sizeOf2
 v2:=Tryz.zeroValue2
 t3:=Tryz.underlying3
 a3:=Tryz.isAgg3
 z3:=Tryz.sizeOf3
 v3:=Tryz.zeroValue3
 t4:=Tryz.underlying4
 a4:=Tryz.isAgg4
 z4:=Tryz.sizeOf4
 v4:=Tryz.zeroValue4
 t5:=Tryz.underlying5
 a5:=Tryz.isAgg5
 z5:=Tryz.sizeOf5
 v5:=Tryz.zeroValue5
 t9:=Tryz.underlying9
 a9:=Tryz.isAgg9
 z9:=Tryz.sizeOf9
 v9:=Tryz.zeroValue9
 t20:=Tryz.underlying20
 a20:=Tryz.isAgg20
 z20:=Tryz.sizeOf20
 v20:=Tryz.zeroValue20
 t37:=Tryz.underlying46
 a37:=Tryz.isAgg46
 z37:=Tryz.sizeOf46
 v37:=Tryz.zeroValue46
 t46:=Tryz.underlying207
 a46:=Tryz.isAgg207
 z46:=Tryz.sizeOf207
 v46:=Tryz.zeroValue207
 t51:=Tryz.underlying231
 a51:=Tryz.isAgg231
 z51:=Tryz.sizeOf231
 v51:=Tryz.zeroValue231
 t53:=Tryz.underlying213
 a53:=Tryz.isAgg213
 z53:=Tryz.sizeOf213
 v53:=Tryz.zeroValue213
 t171:=Tryz.underlying212
 a171:=Tryz.isAgg212
 z171:=Tryz.sizeOf212
 v171:=Tryz.zeroValue212
 t173:=Tryz.underlying216
 a173:=Tryz.isAgg216
 z173:=Tryz.sizeOf216
 v173:=Tryz.zeroValue216
 t212:=Tryz.underlying243
 a212:=Tryz.isAgg243
 z212:=Tryz.sizeOf243
 v212:=Tryz.zeroValue243
 t213:=Tryz.underlying244
 a213:=Tryz.isAgg244
 z213:=Tryz.sizeOf244
 t232:=Tryz.underlying291
 a232:=Tryz.isAgg291
 z232:=Tryz.sizeOf291
 v232:=Tryz.zeroValue291
 t233:=Tryz.underlying292
 a233:=Tryz.isAgg292
 z233:=Tryz.sizeOf292
 v233:=Tryz.zeroValue292
 g17:=by kernel_rfl
 g18:=by kernel_rfl
 g19:=by kernel_rfl }
open Go.RowKit Go.Sort Go.Lib in
theorem Tryz.strconv_Itoa_small (i:Nat) (hi:i<100) (w:World) :
 Calls Tryz.prog 49 #[.int .i64 i] w λe w'=>e=.returned (.string ⟨(Lib.decDigits i).toArray⟩)∧w'=w:=Any.strconv_Itoa_small Tryz.lays171 i hi w
def Tryz.laysM316_ren:Go.Shelf.Ren:=⟨fun|316=>187|n=>n,fun|9=>9|3=>3|4=>4|37=>46|0=>0|127=>146|5=>5|n=>n,fun|n=>n⟩
theorem Tryz.laysM316:Go.Proofs.LaysM.n316 Tryz.prog Tryz.laysM316_ren:={
 mixed:=by kernel_rfl
 f316:=Tryz.func187.trans (congrArg some (by kernel_rfl))
 t0:=Tryz.underlying0
 a0:=Tryz.isAgg0
 z0:=Tryz.sizeOf0
 v0:=Tryz.zeroValue0
 t3:=Tryz.underlying3
 a3:=Tryz.isAgg3
 z3:=Tryz.sizeOf3
 v3:=Tryz.zeroValue3
 t4:=Tryz.underlying4
 a4:=Tryz.isAgg4
 z4:=Tryz.sizeOf4
 v4:=Tryz.zeroValue4
 t9:=Tryz.underlying9
 a9:=Tryz.isAgg9
 z9:=Tryz.sizeOf9
 v9:=Tryz.zeroValue9
 t37:=Tryz.underlying46
 a37:=Tryz.isAgg46
 z37:=Tryz.sizeOf46
 v37:=Tryz.zeroValue46
 t127:=Tryz.underlying146
 a127:=Tryz.isAgg146
 z127:=Tryz.sizeOf146
 v127:=Tryz.zeroValue146
 t5:=Tryz.underlying5
 a5:=Tryz.isAgg5
 z5:=Tryz.sizeOf5
 v5:=Tryz.zeroValue5
 i0:=by kernel_rfl
 i3:=by kernel_rfl
 i4:=by kernel_rfl
 i5:=by kernel_rfl
 i9:=by kernel_rfl
 i37:=by kernel_rfl
 i127:=by kernel_rfl }
open Go.RowKit in
theorem Tryz.stringslite_Clone (s:ByteArray) (w:World) (hlim:s.size≤281474976710656) :
 Calls Tryz.prog 187 #[.string s] w λe w'=>e=.returned (.string s)∧Below w.heap.size w w':=Any.stringslite_Clone Tryz.laysM316 s w hlim
def Tryz.laysC172_ren:Go.Shelf.Ren:=⟨fun|172=>149|244=>185|245=>186|247=>217|279=>218|280=>219|281=>220|282=>221|287=>252|316=>187|171=>49|205=>253|321=>266|322=>267|243=>105|246=>154|283=>190|284=>191|285=>192|286=>193|129=>224|317=>223|318=>225|319=>226|320=>227|337=>255|338=>256|n=>n,fun|9=>9|3=>3|75=>93|76=>94|4=>4|5=>5|167=>236|37=>46|0=>0|85=>237|2=>2|168=>239|53=>213|175=>267|46=>207|210=>270|127=>146|145=>290|143=>288|21=>21|171=>212|173=>216|212=>243|51=>231|20=>20|213=>244|232=>291|233=>292|80=>97|n=>n,fun|15=>2|16=>3|17=>1|18=>6|19=>7|n=>n⟩
theorem Tryz.laysC172:Go.Proofs.LaysC.n172 Tryz.prog Tryz.laysC172_ren:={
 mixed:=by kernel_rfl
 f129:=Tryz.func224.trans (congrArg some (by kernel_rfl))
 f171:=Tryz.func49.trans (congrArg some (by kernel_rfl))
 f172:=Tryz.func149.trans (congrArg some (by kernel_rfl))
 f205:=Tryz.func253.trans (congrArg some (by kernel_rfl))
 f243:=Tryz.func105.trans (congrArg some (by kernel_rfl))
 f244:=Tryz.func185.trans (congrArg some (by kernel_rfl))
 f245:=Tryz.func186.trans (congrArg some (by kernel_rfl))
 f246:=Tryz.func154.trans (congrArg some (by kernel_rfl))
 f247:=Tryz.func217.trans (congrArg some (by kernel_rfl))
 f279:=Tryz.func218.trans (congrArg some (by kernel_rfl))
 f280:=Tryz.func219.trans (congrArg some (by kernel_rfl))
 f281:=Tryz.func220.trans (congrArg some (by kernel_rfl))
 f282:=Tryz.func221.trans (congrArg some (by kernel_rfl))
 f283:=Tryz.func190.trans (congrArg some (by kernel_rfl))
 f284:=Tryz.func191.trans (congrArg some (by kernel_rfl))
 f285:=Tryz.func192.trans (congrArg some (by kernel_rfl))
 f286:=Tryz.func193.trans (congrArg some (by kernel_rfl))
 f287:=Tryz.func252.trans (congrArg some (by kernel_rfl))
 f316:=Tryz.func187.trans (congrArg some (by kernel_rfl))
 f317:=Tryz.func223.trans (congrArg some (by kernel_rfl))
 f318:=Tryz.func225.trans (congrArg some (by kernel_rfl))
 f319:=Tryz.func226.trans (congrArg some (by kernel_rfl))
 f320:=Tryz.func227.trans (congrArg some (by kernel_rfl))
 f321:=Tryz.func266.trans (congrArg some (by kernel_rfl))
 f322:=Tryz.func267.trans (congrArg some (by kernel_rfl))
 f337:=Tryz.func255.trans (congrArg some (by kernel_rfl))
 f338:=Tryz.func256.trans (congrArg some (by kernel_rfl))
 t0:=Tryz.underlying0
 a0:=Tryz.isAgg0
 z0:=Tryz.sizeOf0
 v0:=Tryz.zeroValue0
 t2:=Tryz.underlying2
 a2:=Tryz.isAgg2
 z2:=Tryz.sizeOf2
 v2:=Tryz.zeroValue2
 t3:=Tryz.underlying3
 a3:=Tryz.isAgg3
 z3:=Tryz.sizeOf3
 v3:=Tryz.zeroValue3
 t4:=Tryz.underlying4
 a4:=Tryz.isAgg4
 z4:=Tryz.sizeOf4
 v4:=Tryz.zeroValue4
 t5:=Tryz.underlying5
 a5:=Tryz.isAgg5
 z5:=Tryz.sizeOf5
 v5:=Tryz.zeroValue5
 t9:=Tryz.underlying9
 a9:=Tryz.isAgg9
 z9:=Tryz.sizeOf9
 v9:=Tryz.zeroValue9
 t20:=Tryz.underlying20
 a20:=Tryz.isAgg20
 z20:=Tryz.sizeOf20
 v20:=Tryz.zeroValue20
 t21:=Tryz.underlying21
 a21:=Tryz.isAgg21
 z21:=Tryz.sizeOf21
 v21:=Tryz.zeroValue21
 t37:=Tryz.underlying46
 a37:=Tryz.isAgg46
 z37:=Tryz.sizeOf46
 v37:=Tryz.zeroValue46
 t46:=Tryz.underlying207
 a46:=Tryz.isAgg207
 z46:=Tryz.sizeOf207
 v46:=Tryz.zeroValue207
 t51:=Tryz.underlying231
 a51:=Tryz.isAgg231
 z51:=Tryz.sizeOf231
 v51:=Tryz.zeroValue231
 t53:=Tryz.underlying213
 a53:=Tryz.isAgg213
 z53:=Tryz.sizeOf213
 v53:=Tryz.zeroValue213
 t75:=Tryz.underlying93
 a75:=Tryz.isAgg93
 z75:=Tryz.sizeOf93
 v75:=Tryz.zeroValue93
 t76:=Tryz.underlying94
 a76:=Tryz.isAgg94
 z76:=Tryz.sizeOf94
 v76:=Tryz.zeroValue94
 t85:=Tryz.underlying237
 a85:=Tryz.isAgg237
 z85:=Tryz.sizeOf237
 v85:=Tryz.zeroValue237
 t127:=Tryz.underlying146
 a127:=Tryz.isAgg146
 z127:=Tryz.sizeOf146
 v127:=Tryz.zeroValue146
 t143:=Tryz.underlying288
 a143:=Tryz.isAgg288
 z143:=Tryz.sizeOf288
 v143:=Tryz.zeroValue288
 t145:=Tryz.underlying290
 a145:=Tryz.isAgg290
 z145:=Tryz.sizeOf290
 v145:=Tryz.zeroValue290
 t167:=Tryz.underlying236
 a167:=Tryz.isAgg236
 z167:=Tryz.sizeOf236
 v167:=Tryz.zeroValue236
 t168:=Tryz.underlying239
 a168:=Tryz.isAgg239
 z168:=Tryz.sizeOf239
 v168:=Tryz.zeroValue239
 t171:=Tryz.underlying212
 a171:=Tryz.isAgg212
 z171:=Tryz.sizeOf212
 v171:=Tryz.zeroValue212
 t173:=Tryz.underlying216
 a173:=Tryz.isAgg216
 z173:=Tryz.sizeOf216
 v173:=Tryz.zeroValue216
 t175:=Tryz.underlying267
 a175:=Tryz.isAgg267
 z175:=Tryz.sizeOf267
 v175:=Tryz.zeroValue267
 t210:=Tryz.underlying270
 a210:=Tryz.isAgg270
 z210:=Tryz.sizeOf270
 v210:=Tryz.zeroValue270
 t212:=Tryz.underlying243
 a212:=Tryz.isAgg243
 z212:=Tryz.sizeOf243
 v212:=Tryz.zeroValue243
 t213:=Tryz.underlying244
 a213:=Tryz.isAgg244
 z213:=Tryz.sizeOf244
 t232:=Tryz.underlying291
 a232:=Tryz.isAgg291
 z232:=Tryz.sizeOf291
 v232:=Tryz.zeroValue291
 t233:=Tryz.underlying292
 a233:=Tryz.isAgg292
 z233:=Tryz.sizeOf292
 v233:=Tryz.zeroValue292
 g15:=by kernel_rfl
 g16:=by kernel_rfl
 g17:=by kernel_rfl
 g18:=by kernel_rfl
 g19:=by kernel_rfl
 t80:=Tryz.underlying97
 a80:=Tryz.isAgg97
 z80:=Tryz.sizeOf97
 v80:=Tryz.zeroValue97
 i0:=by kernel_rfl
 i2:=by kernel_rfl
 i3:=by kernel_rfl
 i4:=by kernel_rfl
 i5:=by kernel_rfl
 i9:=by kernel_rfl
 i20:=by kernel_rfl
 i21:=by kernel_rfl
 i37:=by kernel_rfl
 i46:=by kernel_rfl
 i51:=by kernel_rfl
 i53:=by kernel_rfl
 i75:=by kernel_rfl
 i76:=by kernel_rfl
 i80:=by kernel_rfl
 i85:=by kernel_rfl
 i127:=by kernel_rfl
 i143:=by kernel_rfl
 i145:=by kernel_rfl
 i167:=by kernel_rfl
 i168:=by kernel_rfl
 i171:=by kernel_rfl
 i173:=by kernel_rfl
 i175:=by kernel_rfl
 i210:=by kernel_rfl
 i212:=by kernel_rfl
 i232:=by kernel_rfl
 i233:=by kernel_rfl
 m15:=by kernel_rfl
 m16:=by kernel_rfl
 m17:=by kernel_rfl
 m18:=by kernel_rfl
 m19:=by kernel_rfl
 c0:=by kernel_rfl
 c2:=by kernel_rfl
 c3:=by kernel_rfl
 c4:=by kernel_rfl
 c5:=by kernel_rfl
 c9:=by kernel_rfl
 c20:=by kernel_rfl
 c21:=by kernel_rfl
 c37:=by kernel_rfl
 c46:=by kernel_rfl
 c51:=by kernel_rfl
 c53:=by kernel_rfl
 c75:=by kernel_rfl
 c76:=by kernel_rfl
 c80:=by kernel_rfl
 c85:=by kernel_rfl
 c127:=by kernel_rfl
 c143:=by kernel_rfl
 c145:=by kernel_rfl
 c167:=by kernel_rfl
 c168:=by kernel_rfl
 c171:=by kernel_rfl
 c173:=by kernel_rfl
 c175:=by kernel_rfl
 c210:=by kernel_rfl
 c212:=by kernel_rfl
 c213:=by kernel_rfl
 c232:=by kernel_rfl
 c233:=by kernel_rfl }
def Tryz.lays145_ren:Go.Shelf.Ren:=⟨fun|145=>46|220=>95|219=>144|217=>178|225=>179|224=>180|267=>181|266=>212|314=>213|n=>n,fun|9=>9|4=>4|59=>90|3=>3|5=>5|46=>207|146=>232|51=>231|n=>n,fun|1=>0|n=>n⟩
theorem Tryz.lays145:Go.Proofs.Lays.n145 Tryz.prog Tryz.lays145_ren:={
 mixed:=by kernel_rfl
 f145:=Tryz.func46.trans (congrArg some (by kernel_rfl))
 f217:=Tryz.func178.trans (congrArg some (by kernel_rfl))
 f219:=Tryz.func144.trans (congrArg some (by kernel_rfl))
 f220:=Tryz.func95.trans (congrArg some (by kernel_rfl))
 f224:=Tryz.func180.trans (congrArg some (by kernel_rfl))
 f225:=Tryz.func179.trans (congrArg some (by kernel_rfl))
 f266:=Tryz.func212.trans (congrArg some (by kernel_rfl))
 f267:=Tryz.func181.trans (congrArg some (by kernel_rfl))
 f314:=Tryz.func213.trans (congrArg some (by kernel_rfl))
 t3:=Tryz.underlying3
 a3:=Tryz.isAgg3
 z3:=Tryz.sizeOf3
 v3:=Tryz.zeroValue3
 t4:=Tryz.underlying4
 a4:=Tryz.isAgg4
 z4:=Tryz.sizeOf4
 v4:=Tryz.zeroValue4
 t5:=Tryz.underlying5
 a5:=Tryz.isAgg5
 z5:=Tryz.sizeOf5
 v5:=Tryz.zeroValue5
 t9:=Tryz.underlying9
 a9:=Tryz.isAgg9
 z9:=Tryz.sizeOf9
 v9:=Tryz.zeroValue9
 t46:=Tryz.underlying207
 a46:=Tryz.isAgg207
 z46:=Tryz.sizeOf207
 v46:=Tryz.zeroValue207
 t51:=Tryz.underlying231
 a51:=Tryz.isAgg231
 z51:=Tryz.sizeOf231
 v51:=Tryz.zeroValue231
 t59:=Tryz.underlying90
 a59:=Tryz.isAgg90
 z59:=Tryz.sizeOf90
 v59:=Tryz.zeroValue90
 t146:=Tryz.underlying232
 a146:=Tryz.isAgg232
 z146:=Tryz.sizeOf232
 v146:=Tryz.zeroValue232
 g1:=by kernel_rfl }
open Go.RowKit Go.Lib in
theorem Tryz.strings_Cut (s sep:ByteArray) (m:Int) (w:World) (hs:s.size<4294967281) (hm:w.cell? ⟨0,0,none⟩=some (.int .i64 m)) :
 Calls Tryz.prog 46 #[.string s,.string sep] w λe w'=>e=.returned (.tuple #[.string ⟨(Lib.cut s.data.toList sep.data.toList).1.toArray⟩,.string ⟨(Lib.cut s.data.toList sep.data.toList).2.1.toArray⟩,.bool (Lib.cut s.data.toList sep.data.toList).2.2])∧∃n,w'=w.drewN n:=Any.strings_Cut Tryz.lays145 s sep m w hs hm
def Tryz.lays146_ren:Go.Shelf.Ren:=⟨fun|146=>97|221=>146|268=>182|138=>183|143=>184|195=>214|197=>215|218=>216|219=>144|260=>251|217=>178|225=>179|224=>180|267=>181|266=>212|314=>213|n=>n,fun|9=>9|31=>98|3=>3|4=>4|0=>0|105=>234|21=>21|5=>5|46=>207|119=>283|139=>286|138=>285|146=>232|51=>231|n=>n,fun|1=>0|3=>4|4=>5|n=>n⟩
theorem Tryz.lays146:Go.Proofs.Lays.n146 Tryz.prog Tryz.lays146_ren:={
 mixed:=by kernel_rfl
 f138:=Tryz.func183.trans (congrArg some (by kernel_rfl))
 f143:=Tryz.func184.trans (congrArg some (by kernel_rfl))
 f146:=Tryz.func97.trans (congrArg some (by kernel_rfl))
 f195:=Tryz.func214.trans (congrArg some (by kernel_rfl))
 f197:=Tryz.func215.trans (congrArg some (by kernel_rfl))
 f217:=Tryz.func178.trans (congrArg some (by kernel_rfl))
 f218:=Tryz.func216.trans (congrArg some (by kernel_rfl))
 f219:=Tryz.func144.trans (congrArg some (by kernel_rfl))
 f221:=Tryz.func146.trans (congrArg some (by kernel_rfl))
 f224:=Tryz.func180.trans (congrArg some (by kernel_rfl))
 f225:=Tryz.func179.trans (congrArg some (by kernel_rfl))
 f260:=Tryz.func251.trans (congrArg some (by kernel_rfl))
 f266:=Tryz.func212.trans (congrArg some (by kernel_rfl))
 f267:=Tryz.func181.trans (congrArg some (by kernel_rfl))
 f268:=Tryz.func182.trans (congrArg some (by kernel_rfl))
 f314:=Tryz.func213.trans (congrArg some (by kernel_rfl))
 t0:=Tryz.underlying0
 a0:=Tryz.isAgg0
 z0:=Tryz.sizeOf0
 v0:=Tryz.zeroValue0
 t3:=Tryz.underlying3
 a3:=Tryz.isAgg3
 z3:=Tryz.sizeOf3
 v3:=Tryz.zeroValue3
 t4:=Tryz.underlying4
 a4:=Tryz.isAgg4
 z4:=Tryz.sizeOf4
 v4:=Tryz.zeroValue4
 t5:=Tryz.underlying5
 a5:=Tryz.isAgg5
 z5:=Tryz.sizeOf5
 v5:=Tryz.zeroValue5
 t9:=Tryz.underlying9
 a9:=Tryz.isAgg9
 z9:=Tryz.sizeOf9
 v9:=Tryz.zeroValue9
 t21:=Tryz.underlying21
 a21:=Tryz.isAgg21
 z21:=Tryz.sizeOf21
 v21:=Tryz.zeroValue21
 t31:=Tryz.underlying98
 a31:=Tryz.isAgg98
 z31:=Tryz.sizeOf98
 v31:=Tryz.zeroValue98
 t46:=Tryz.underlying207
 a46:=Tryz.isAgg207
 z46:=Tryz.sizeOf207
 v46:=Tryz.zeroValue207
 t51:=Tryz.underlying231
 a51:=Tryz.isAgg231
 z51:=Tryz.sizeOf231
 v51:=Tryz.zeroValue231
 t105:=Tryz.underlying234
 a105:=Tryz.isAgg234
 z105:=Tryz.sizeOf234
 v105:=Tryz.zeroValue234
 t119:=Tryz.underlying283
 a119:=Tryz.isAgg283
 z119:=Tryz.sizeOf283
 t138:=Tryz.underlying285
 a138:=Tryz.isAgg285
 z138:=Tryz.sizeOf285
 v138:=Tryz.zeroValue285
 t139:=Tryz.underlying286
 a139:=Tryz.isAgg286
 z139:=Tryz.sizeOf286
 v139:=Tryz.zeroValue286
 t146:=Tryz.underlying232
 a146:=Tryz.isAgg232
 z146:=Tryz.sizeOf232
 v146:=Tryz.zeroValue232
 g1:=by kernel_rfl
 g3:=by kernel_rfl
 g4:=by kernel_rfl }
open Go.RowKit Go.Lib in
theorem Tryz.strings_Split (s sep:ByteArray) (m:Int) (w:World) (hs:s.size<4294967281) (hm:w.cell? ⟨0,0,none⟩=some (.int .i64 m)) (h1:1≤sep.size) :
 Calls Tryz.prog 97 #[.string s,.string sep] w λe w' =>
  e=.returned (.slice (some ⟨w.heap.size,0,none⟩) (Lib.countB s sep+1) (Lib.countB s sep+1))∧w'=w.alloc (.cells ((Lib.splitB sep 0 (Lib.countB s sep) s).map Value.string).toArray 9):=Any.strings_Split Tryz.lays146 (by kernel_rfl) s sep m w hs hm h1
end Go.Proofs
namespace Go.Proofs.YtpnekhiejecipaaGreatDoor.W
open Go Go.RowKit Go.Proofs Go.Proofs.YtpnekhiejecipaaGreatDoor.VL
theorem qmo {P:Program} {t sz:Nat} (h:(P.info? t).map (λi=>(i.size,i.zero.map (·.cells.size),decide (i.bytes≤100000)))=some (sz,some sz,true)) :
 ∃i z,P.info? t=some i∧i.zero=some z∧i.size=sz∧z.cells.size=sz∧i.bytes≤100000:=by
 obtain⟨i,hi,h⟩:=Option.map_eq_some_iff.1 h
 simp only[Prod.mk.injEq,decide_eq_true_eq,zM] at h
 obtain⟨h1,⟨z,hz,h2⟩,h3⟩:=h
 exact⟨i,z,hi,hz,h1,h2,h3⟩
set_option maxRecDepth 100000
set_option maxHeartbeats 2000000
theorem m243:ClipM Tryz.prog 243:=by
 intro A n c W hc
 have u:Tryz.prog.underlying 190=some (.slice 193):=by kernel_rfl
 have u72:∀w,Sem.run Tryz.prog (underlying 190) w=.ok (TypeDesc.slice 193) w:=run_underlying u
 go_enter Tryz.func243,Tryz.ntmps243
 go_wp2
 go_ret
 exact⟨rfl,rfl⟩
theorem c243 (rows:List (List V)):FnR Tryz.prog G 243 [.sl 4 rows] (.sl 4 rows):=qos (by kernel_rfl) m243 4 rows
theorem m168:ClipM Tryz.prog 168:=by
 intro A n c W hc
 have u:Tryz.prog.underlying 156=some (.slice 63):=by kernel_rfl
 have u72:∀w,Sem.run Tryz.prog (underlying 156) w=.ok (TypeDesc.slice 63) w:=run_underlying u
 go_enter Tryz.func168,Tryz.ntmps168
 go_wp2
 go_ret
 exact⟨rfl,rfl⟩
theorem c168 (rows:List (List V)):FnR Tryz.prog G 168 [.sl 2 rows] (.sl 2 rows):=qos (by kernel_rfl) m168 2 rows
theorem m173:ClipM Tryz.prog 173:=by
 intro A n c W hc
 have u:Tryz.prog.underlying 27=some (.slice 145):=by kernel_rfl
 have u72:∀w,Sem.run Tryz.prog (underlying 27) w=.ok (TypeDesc.slice 145) w:=run_underlying u
 go_enter Tryz.func173,Tryz.ntmps173
 go_wp2
 go_ret
 exact⟨rfl,rfl⟩
theorem c173 (rows:List (List V)):FnR Tryz.prog G 173 [.sl 3 rows] (.sl 3 rows):=qos (by kernel_rfl) m173 3 rows
theorem o173 (rows:List (List V)) (n:Nat) (h:rows.length=n):FnP Tryz.prog G 173 0 [.arr 145 3 rows] [.own 0 n] (λr o=>r=.own 0 n∧o=[.arr 145 3 rows]):=qkm (by kernel_rfl) m173 145 3 rows n h
theorem m209:ClipM Tryz.prog 209:=by
 intro A n c W hc
 have u:Tryz.prog.underlying 165=some (.slice 204):=by kernel_rfl
 have u72:∀w,Sem.run Tryz.prog (underlying 165) w=.ok (TypeDesc.slice 204) w:=run_underlying u
 go_enter Tryz.func209,Tryz.ntmps209
 go_wp2
 go_ret
 exact⟨rfl,rfl⟩
theorem o209 (rows:List (List V)) (n:Nat) (h:rows.length=n):FnP Tryz.prog G 209 0 [.arr 204 2 rows] [.own 0 n] (λr o=>r=.own 0 n∧o=[.arr 204 2 rows]):=qkm (by kernel_rfl) m209 204 2 rows n h
theorem m75:ClipM Tryz.prog 75:=by
 intro A n c W hc
 have u:Tryz.prog.underlying 26=some (.slice 69):=by kernel_rfl
 have u72:∀w,Sem.run Tryz.prog (underlying 26) w=.ok (TypeDesc.slice 69) w:=run_underlying u
 go_enter Tryz.func75,Tryz.ntmps75
 go_wp2
 go_ret
 exact⟨rfl,rfl⟩
theorem c75 (rows:List (List V)):FnR Tryz.prog G 75 [.sl 10 rows] (.sl 10 rows):=qos (by kernel_rfl) m75 10 rows
theorem m174:CloneM Tryz.prog 174 145 3:=by
 have t27:Tryz.prog.underlying 27=some (.slice 145):=by kernel_rfl
 have u27:∀w,Sem.run Tryz.prog (underlying 27) w=.ok (TypeDesc.slice 145) w:=run_underlying t27
 have q27:∀(w:World) (a:Option Addr) (n c n' c':Nat),(binOp .eql 27 (.slice a n c) (.slice none n' c')).run Tryz.prog w=.ok (.bool a.isNone) w:=λw a n c n' c'=>Lib.run_eql_slice_nil w _ _ a n c n' c' t27
 obtain⟨i0,z0,hi,hz,hs,hzs,hb⟩:=qmo (P:=Tryz.prog) (t:=145) (sz:=3) (by kernel_rfl)
 refine⟨λn c W=>?_,λa n c us W h1 h2 h3 h4=>?_⟩
 ·go_enter Tryz.func174,Tryz.ntmps174
  go_wp2
  go_ret
  exact⟨rfl,rfl⟩
 ·go_enter Tryz.func174,Tryz.ntmps174
  go_wp2_with (at_builtin;refine wpList_append_own _ rfl _ _ 27 rfl W.heap.size 145 i0 z0 3 i0.bytes t27 hi hz hs rfl hzs (by decide) _ _ _ rfl (World.ownsRow_made W #[] 0 (Nat.le_refl _) (Nat.zero_le _) rfl) a n c us rfl h1 ?qc2 h3 ?qc4 ?qc5 ?qc6 ?_)
  case qc2=>intro j u hj;exact Lib.cell?_alloc_some _ (h2 j u hj)
  case qc4=>unfold maxLen;omega
  case qc5=>exact Nat.le_trans (Nat.mul_le_mul (show 0+n≤2000000 by omega) hb) (by decide)
  case qc6=>simp
  intro v' w1 hown hgrow hnil
  go_wp2
  go_ret
  refine⟨v',rfl,by simpa using hown, ?_⟩
  exact((Below.refl _ W).alloc (Nat.le_refl _) _).grown hgrow (by simp) (by intro k hk;simp[Value.ownBlock] at hk;omega)
theorem c174 (rows:List (List V)) (hr:rows.length≤2000000):FnP Tryz.prog G 174 0 [] [.sl 3 rows] (λr o=>r=.own 0 rows.length∧o=[.arr 145 3 rows]):=qbi (by kernel_rfl) m174 rows hr
theorem m210:CloneM Tryz.prog 210 204 2:=by
 have t27:Tryz.prog.underlying 165=some (.slice 204):=by kernel_rfl
 have u27:∀w,Sem.run Tryz.prog (underlying 165) w=.ok (TypeDesc.slice 204) w:=run_underlying t27
 have q27:∀(w:World) (a:Option Addr) (n c n' c':Nat),(binOp .eql 165 (.slice a n c) (.slice none n' c')).run Tryz.prog w=.ok (.bool a.isNone) w:=λw a n c n' c'=>Lib.run_eql_slice_nil w _ _ a n c n' c' t27
 obtain⟨i0,z0,hi,hz,hs,hzs,hb⟩:=qmo (P:=Tryz.prog) (t:=204) (sz:=2) (by kernel_rfl)
 refine⟨λn c W=>?_,λa n c us W h1 h2 h3 h4=>?_⟩
 ·go_enter Tryz.func210,Tryz.ntmps210
  go_wp2
  go_ret
  exact⟨rfl,rfl⟩
 ·go_enter Tryz.func210,Tryz.ntmps210
  go_wp2_with (at_builtin;refine wpList_append_own _ rfl _ _ 165 rfl W.heap.size 204 i0 z0 2 i0.bytes t27 hi hz hs rfl hzs (by decide) _ _ _ rfl (World.ownsRow_made W #[] 0 (Nat.le_refl _) (Nat.zero_le _) rfl) a n c us rfl h1 ?qc2 h3 ?qc4 ?qc5 ?qc6 ?_)
  case qc2=>intro j u hj;exact Lib.cell?_alloc_some _ (h2 j u hj)
  case qc4=>unfold maxLen;omega
  case qc5=>exact Nat.le_trans (Nat.mul_le_mul (show 0+n≤2000000 by omega) hb) (by decide)
  case qc6=>simp
  intro v' w1 hown hgrow hnil
  go_wp2
  go_ret
  refine⟨v',rfl,by simpa using hown, ?_⟩
  exact((Below.refl _ W).alloc (Nat.le_refl _) _).grown hgrow (by simp) (by intro k hk;simp[Value.ownBlock] at hk;omega)
theorem c210 (rows:List (List V)) (hr:rows.length≤2000000):FnP Tryz.prog G 210 0 [] [.sl 2 rows] (λr o=>r=.own 0 rows.length∧o=[.arr 204 2 rows]):=qbi (by kernel_rfl) m210 rows hr
theorem m76:CloneM Tryz.prog 76 69 10:=by
 have t27:Tryz.prog.underlying 26=some (.slice 69):=by kernel_rfl
 have u27:∀w,Sem.run Tryz.prog (underlying 26) w=.ok (TypeDesc.slice 69) w:=run_underlying t27
 have q27:∀(w:World) (a:Option Addr) (n c n' c':Nat),(binOp .eql 26 (.slice a n c) (.slice none n' c')).run Tryz.prog w=.ok (.bool a.isNone) w:=λw a n c n' c'=>Lib.run_eql_slice_nil w _ _ a n c n' c' t27
 obtain⟨i0,z0,hi,hz,hs,hzs,hb⟩:=qmo (P:=Tryz.prog) (t:=69) (sz:=10) (by kernel_rfl)
 refine⟨λn c W=>?_,λa n c us W h1 h2 h3 h4=>?_⟩
 ·go_enter Tryz.func76,Tryz.ntmps76
  go_wp2
  go_ret
  exact⟨rfl,rfl⟩
 ·go_enter Tryz.func76,Tryz.ntmps76
  go_wp2_with (at_builtin;refine wpList_append_own _ rfl _ _ 26 rfl W.heap.size 69 i0 z0 10 i0.bytes t27 hi hz hs rfl hzs (by decide) _ _ _ rfl (World.ownsRow_made W #[] 0 (Nat.le_refl _) (Nat.zero_le _) rfl) a n c us rfl h1 ?qc2 h3 ?qc4 ?qc5 ?qc6 ?_)
  case qc2=>intro j u hj;exact Lib.cell?_alloc_some _ (h2 j u hj)
  case qc4=>unfold maxLen;omega
  case qc5=>exact Nat.le_trans (Nat.mul_le_mul (show 0+n≤2000000 by omega) hb) (by decide)
  case qc6=>simp
  intro v' w1 hown hgrow hnil
  go_wp2
  go_ret
  refine⟨v',rfl,by simpa using hown, ?_⟩
  exact((Below.refl _ W).alloc (Nat.le_refl _) _).grown hgrow (by simp) (by intro k hk;simp[Value.ownBlock] at hk;omega)
theorem c76 (rows:List (List V)) (hr:rows.length≤2000000):FnP Tryz.prog G 76 0 [] [.sl 10 rows] (λr o=>r=.own 0 rows.length∧o=[.arr 69 10 rows]):=qbi (by kernel_rfl) m76 rows hr
def qju:Go.Shelf.Ren:=⟨fun|166=>47|240=>96|276=>145|n=>n,fun|0=>0|3=>3|4=>4|9=>9|20=>20|37=>46|70=>87|72=>89|75=>93|164=>177|5=>5|80=>97|n=>n,fun|n=>n⟩
theorem qjj:Go.Proofs.Lays.n166 Tryz.prog qju:={
 mixed:=by kernel_rfl
 f166:=Tryz.func47.trans (congrArg some (by kernel_rfl))
 f240:=Tryz.func96.trans (congrArg some (by kernel_rfl))
 f276:=Tryz.func145.trans (congrArg some (by kernel_rfl))
 t0:=Tryz.underlying0
 a0:=Tryz.isAgg0
 z0:=Tryz.sizeOf0
 v0:=Tryz.zeroValue0
 t3:=Tryz.underlying3
 a3:=Tryz.isAgg3
 z3:=Tryz.sizeOf3
 v3:=Tryz.zeroValue3
 t4:=Tryz.underlying4
 a4:=Tryz.isAgg4
 z4:=Tryz.sizeOf4
 v4:=Tryz.zeroValue4
 t9:=Tryz.underlying9
 a9:=Tryz.isAgg9
 z9:=Tryz.sizeOf9
 v9:=Tryz.zeroValue9
 t20:=Tryz.underlying20
 a20:=Tryz.isAgg20
 z20:=Tryz.sizeOf20
 v20:=Tryz.zeroValue20
 t37:=Tryz.underlying46
 a37:=Tryz.isAgg46
 z37:=Tryz.sizeOf46
 v37:=Tryz.zeroValue46
 t70:=Tryz.underlying87
 a70:=Tryz.isAgg87
 z70:=Tryz.sizeOf87
 v70:=Tryz.zeroValue87
 t72:=Tryz.underlying89
 a72:=Tryz.isAgg89
 z72:=Tryz.sizeOf89
 v72:=Tryz.zeroValue89
 t75:=Tryz.underlying93
 a75:=Tryz.isAgg93
 z75:=Tryz.sizeOf93
 v75:=Tryz.zeroValue93
 t164:=Tryz.underlying177
 a164:=Tryz.isAgg177
 z164:=Tryz.sizeOf177
 v164:=Tryz.zeroValue177 }
theorem qb7:Builder.Extra Tryz.prog qju:={
 sizeBuilder:=by kernel_rfl
 liesBuilder:=by kernel_rfl
 t5:=Tryz.underlying5
 a5:=Tryz.isAgg5
 z5:=Tryz.sizeOf5
 v5:=Tryz.zeroValue5
 infoByte:=by kernel_rfl
 cellsByte:=by kernel_rfl
 sizeByte:=by kernel_rfl
 neB5:=by decide }
theorem m47 (B b:Nat) (bs:List Value) (s:ByteArray) (w:World) (h:Lib.IsBuilder 89 5 B b bs w) (hlen:bs.length+s.size≤140737488355328) (hBw:B≤w.heap.size) :
 Calls Tryz.prog 47 #[.pointer (some ⟨b,0,none⟩),.string s] w λe w'=>e=.returned (.tuple #[.int .i64 s.size,.nilIface])∧(Lib.BuilderAt 89 5 B b (.pointer (some ⟨b,0,none⟩)) (bs++Lib.strCells s) w'∧Below B w w') :=
 Any.Builder_WriteString qjj qb7 B b bs s w h hlen hBw
theorem qbu {T e:TypeId} {B b:Nat} {bs:List Value} {w w':World} (h:Lib.IsBuilder T e B b bs w) (hb:Below w.heap.size w w'):Lib.IsBuilder T e B b bs w':=by
 have hg:w.grownBy w' none:=⟨hb.os,hb.tape,hb.output,hb.size,λk hk _=>hb.block k hk⟩
 have key:∀p,Lib.BuilderAt T e B b p bs w→Lib.BuilderAt T e B b p bs w':=λp h=>by
  have hlt:=h.lt
  obtain⟨hB,v,h1,h2,h3⟩:=h
  refine⟨hB,v,(hb.block b hlt).trans h1,h2.kept hg ?_,h3⟩
  cases v.ownBlock with
  | none=>exact .inl rfl
  | some k=>exact .inr (by simp)
 exact h.imp (key _) (key _)
theorem hid {p:Prop} (h:p):Hid p:=h
set_option maxHeartbeats 2000000
set_option maxRecDepth 100000
theorem m246 (inn:ByteArray) (A:Option Addr) (n cap:Nat) (bk o:Nat) (hA:0<n→A=some ⟨bk,o,none⟩) (tx:List (List UInt8)) (w:World) (hn:tx.length=n) (hn2:n≤1000) (hbk:0<n→bk<w.heap.size) (hcap:n≤cap)
 (hc:∀(i:Nat) x,tx[i]?=some x→∃z:Int,w.cell? ⟨bk,o+(i*2+0),none⟩=some (.int .i64 z)∧w.cell? ⟨bk,o+(i*2+1),none⟩=some (.string ⟨x.toArray⟩)) (hlen:∀x,x∈tx→x.length≤1000) :
 Calls Tryz.prog 246 #[.agg #[.string inn,.slice A n cap]] w λe w'=>e=.returned (.string ⟨tx.flatten.toArray⟩)∧Below w.heap.size w w':=by
 have e61:∀args w,(callFunc 47 args).run Tryz.prog w=.ok (.enter 47 args) w:=enters_of Tryz.func47 (by kernel_rfl) rfl
 have e64:∀args w,(callFunc 50 args).run Tryz.prog w=.ok (.enter 50 args) w:=enters_of Tryz.func50 (by kernel_rfl) rfl
 have HA:=hid hA
 have Hc:=hid hc
 have Hl:=hid hlen
 have Hn:=hid hn
 clear hA hc hlen hn
 go_enter Tryz.func246,Tryz.ntmps246
 go_wp2_with fail
 go_loopw [9] (λi wr=>∃k:Nat,k≤n∧i=.int .i64 k∧Hid (Lib.IsBuilder 89 5 w.heap.size (w.heap.size+1) (Lib.byteCells (tx.take k).flatten) wr)∧Hid (Below w.heap.size w wr)) (λi _=>n - (intOf i).toNat)
 case atStart =>
  refine⟨0,Nat.zero_le _,rfl, ?_, ?_⟩
  ·refine .inl ⟨Nat.le_succ _,.slice none 0 0, ?_,World.ownsRow_nil _ _ _ _,by simp[Value.ownBlock]⟩
   have:=heap_alloc_new (w.alloc (Obj.cells #[Value.string inn,Value.slice A n cap] 167)) (Obj.cells #[Value.pointer none,Value.slice none 0 0] 89)
   simpa using this
  ·exact((Below.refl w.heap.size w).alloc (Nat.le_refl _) _).alloc (by simp) _
 case round =>
  obtain⟨k,hk,rfl,HB,HW⟩:=hrel
  have hBw:w.heap.size≤wr.heap.size:=HW.out.size
  by_cases hkn:k<n
  ·obtain⟨x,hx⟩:∃x,tx[k]?=some x:=⟨tx[k]'(by have:=Hn.out;omega),zE _⟩
   obtain rfl:=HA.out (by omega)
   obtain⟨z,hc0,hc1⟩:=Hc.out k x hx
   have hbk':bk<w.heap.size:=hbk (by omega)
   have hd0:wr.cell? ⟨bk,o+k*2,none⟩=some (.int .i64 z):=by
    rw[HW.out.cell (p:=⟨bk,o+k*2,none⟩) hbk']
    exact hc0
   have hd1:wr.cell? ⟨bk,o+k*2+1,none⟩=some (.string ⟨x.toArray⟩):=by
    rw[HW.out.cell (p:=⟨bk,o+k*2+1,none⟩) hbk']
    exact hc1
   have Hx:=hid hx
   clear hc0 hc1 hx
   have hxl:=Hl.out x (List.mem_of_getElem? Hx.out)
   have hfl:∀(l:List (List UInt8)) (m:Nat),(∀y,y∈l→y.length≤1000)→l.length≤m→l.flatten.length≤m*1000:=by
    intro l
    induction l with
    | nil=>intro m _ _;simp
    | cons a l ih =>
      intro m h1 h2
      obtain⟨m,rfl⟩:∃q,m=q+1:=⟨m - 1,by simp at h2;omega⟩
      have:=ih m (λy hy=>h1 y (List.mem_cons_of_mem _ hy)) (by simpa using h2)
      have:=h1 a List.mem_cons_self
      simp only[List.flatten_cons,zA]
      omega
   have hl1:=hfl (tx.take k) 1000 (λy hy=>Hl.out y (List.mem_of_mem_take hy)) (by simp;omega)
   have hnext:Lib.byteCells (tx.take k).flatten++Lib.strCells ⟨x.toArray⟩=Lib.byteCells (tx.take (k+1)).flatten:=by
    rw[List.take_add_one,Hx.out]
    simp[Lib.strCells_eq,Lib.byteCells_append]
   have Hn':=hid hnext
   have Hl1:=hid hl1
   have Hxl:=hid hxl
   clear hnext hl1 hxl hfl
   go_wp2_with fail
   have hbel:Below wr.heap.size wr (wr.alloc (Obj.cells #[Value.int IntKind.i64 z,Value.string { data:=x.toArray }] 204)):=(Below.refl _ _).alloc (Nat.le_refl _) _
   refine(m47 w.heap.size (w.heap.size+1) _ ⟨x.toArray⟩ _ (qbu HB.out hbel) ?hl (Nat.le_trans hBw hbel.size)).mono ?_
   case hl =>
    have h1:=Hl1.out
    have h2:=Hxl.out
    rw[Lib.byteCells_length]
    simp only[ByteArray.size,List.size_toArray]
    omega
   rintro e w3 ⟨rfl,h3,hb3⟩
   rw[Hn'.out] at h3
   have H3:=hid (Or.inr h3:Lib.IsBuilder 89 5 w.heap.size (w.heap.size+1) _ w3)
   have Hb3:=hid ((HW.out.trans (hbel.mono hBw)).trans hb3)
   clear h3 hb3 hbel
   go_wp2
   exact⟨⟨k+1,by omega,by go_num,H3,Hb3⟩,by simp[intOf];omega⟩
  ·obtain rfl:k=n:=by omega
   have hB':=HB.out
   rw[List.take_of_length_le (by rw[Hn.out];omega)] at hB'
   go_wp2_with fail
   refine(Tryz.Builder_String_any w.heap.size (w.heap.size+1) _ wr hB' hBw).mono ?_
   rintro e w5 ⟨rfl,hb5⟩
   have Hb5:=hid (HW.out.trans hb5)
   clear hb5 hB'
   go_wp2
   go_ret
   exact⟨rfl,Hb5.out⟩
theorem e246:entr Tryz.prog 246=true:=by kernel_rfl
theorem qx8 (s:M.Strm) (h:M.StrB s):FnR Tryz.prog G 246 [.agg [.str s.inn,.sl 2 (s.parts.map M.Part.row)]] (.str (M.sOut s)) where
 en:=e246
 ne:=⟨_,_,rfl,rfl⟩
 run:=λW ρ ext us hg hlt hno hng r hargs=>by
  obtain⟨u,rfl,hd⟩:=qa6 hargs
  obtain⟨fs,rfl,hfl,hf⟩:=hd
  have hc:chH []=λ_=>.fresh:=by funext x;simp[chH]
  have fin:∀e (W':World),e=Ending.returned (.string (mkStr (M.sOut s)))→Below W.heap.size W W'→∃u res out ρ',e=.returned u∧(res=V.str (M.sOut s)∧out=[])∧RelH ⟨W,blocks ρ (chH []),ext,0,ρ⟩ ρ' (chH out) W' ∧
   Den W' (owns ⟨W,blocks ρ (chH []),ext,0,ρ⟩ ρ' (chH out)) ρ' (chH out) res u:=λe W' he hb=>by
   refine⟨_,_,[],λ_=>default,he,⟨rfl,rfl⟩,⟨hb.os,hb.tape,hb.output,hb.size,λb hb1 _=>hb.block b hb1,λc=>(by rw[hc];trivial),λc hl=>(by rw[hc] at hl;cases hl),λc c' hl=>(by rw[hc] at hl;cases hl),λi hi=>absurd hi (Nat.not_lt_zero _)⟩,Imm.str _⟩
  match fs,hfl with
  | [a,b],_ =>
    have ha:a=.string (mkStr s.inn):=q5n (hf 0 _ _ rfl rfl)
    subst ha
    have hb:Imm W _ (.sl 2 (s.parts.map M.Part.row)) b:=hf 1 _ _ rfl rfl
    have hout:(s.parts.map λp=>p.text).flatten=M.sOut s:=by simp[M.sOut,List.flatMap]
    have key:∀(A:Option Addr) (cap bk o:Nat),b=.slice A s.parts.length cap→s.parts.length≤cap→(0<s.parts.length→A=some ⟨bk,o,none⟩)→(0<s.parts.length→bk<W.heap.size) →
     (∀(i:Nat) x,(s.parts.map λp=>p.text)[i]?=some x→∃z:Int,W.cell? ⟨bk,o+(i*2+0),none⟩=some (.int .i64 z)∧W.cell? ⟨bk,o+(i*2+1),none⟩=some (.string ⟨x.toArray⟩)) →
     Calls Tryz.prog 246 #[.agg #[.string (mkStr s.inn),b]] W λe W'=>∃u res out ρ',e=.returned u∧(res=V.str (M.sOut s)∧out=[])∧RelH ⟨W,blocks ρ (chH []),ext,0,ρ⟩ ρ' (chH out) W' ∧
      Den W' (owns ⟨W,blocks ρ (chH []),ext,0,ρ⟩ ρ' (chH out)) ρ' (chH out) res u:=λA cap bk o hb hcap hA hbk hcells=>by
     subst hb
     refine(m246 (mkStr s.inn) A s.parts.length cap bk o hA (s.parts.map λp=>p.text) W (by simp) (by have:=h.2.1;omega) hbk hcap hcells (λx hx=>?_)).mono λe W' ⟨he,hb⟩=>fin e W' (by rw[he,hout];rfl) hb
     obtain⟨p,hp,rfl⟩:=List.mem_map.1 hx
     have:=h.2.2 p hp
     omega
    generalize hR:s.parts.map M.Part.row=R at hb
    have hRl:R.length=s.parts.length:=by rw[←hR];simp
    cases hb with
    | esl _ A cap =>
      have hz:s.parts.length=0:=by rw[←hRl];rfl
      refine key A cap 0 0 (by rw[hz]) (by omega) (λh=>by omega) (λh=>by omega) λi x hx=>?_
      have:=(List.getElem?_eq_some_iff.1 hx).1
      simp at this
      omega
    | sl _ _ blk off cap cs h1 h2 h3 h4 h5 h6 h7 =>
      refine key _ cap blk off (by rw[←hRl]) (by omega) (λ_=>rfl) (λ_=>h2) λi x hx=>?_
      obtain⟨p,hp,rfl⟩:∃p,s.parts[i]?=some p∧p.text=x:=by simpa using hx
      have hr:R[i]?=some (M.Part.row p):=by rw[←hR];simp[hp]
      have a0:=h6 i _ 0 _ hr rfl
      have a1:=h6 i _ 1 _ hr rfl
      have b0:=q5l (h7 i _ 0 _ hr rfl)
      have b1:=q5n (h7 i _ 1 _ hr rfl)
      rw[b0] at a0
      rw[b1] at a1
      exact⟨_,a0,a1⟩
theorem qaz {P:Program} (w:World) (t e ty:TypeId) (z:Value) (ht:P.underlying t=some (.slice e)) (hv:∀w,(zeroValue e).run P w=.ok z w) (h1:∀u,u∈z.cells.toList→u.oneCell'=true) (b o c:Nat)
 (hc:∀j,j<z.cells.toList.length→(w.cell? ⟨b,o+j,none⟩).isSome=true) (hf:∀j,j<z.cells.toList.length→w.frozen? ⟨b,o+j,none⟩=false) :
 (Builtin.clear_ #[t] ty #[.slice (some ⟨b,o,none⟩) 1 c]).run P w=.ok (.tuple #[]) (w.setCells b o z.cells.toList):=by
 have hzc:(Builtin.zeroCells z.cells 1).toList=z.cells.toList:=by
  simp only[Builtin.zeroCells]
  apply List.ext_getElem
  ·simp
  ·intro i h1 h2
   simp at h1 h2 ⊢
   have e:i % z.cells.size=i:=Nat.mod_eq_of_lt h2
   simp[e,h2]
 have hst:=run_storeCells_cells (P:=P) b o z.cells.toList 0 w (by simpa using hc) (by simpa using hf) h1
 simp only[Nat.add_zero] at hst
 simp[Builtin.clear_,run_underlying ht,hv,hzc,hst]
set_option maxRecDepth 100000
set_option maxHeartbeats 4000000
theorem m131 (blk off cap n k j:Nat) (us:List Value) (w:World) (hl:us.length=n*7) (hcl:∀(t:Nat) u,us[t]?=some u→w.cell? ⟨blk,off+t,none⟩=some u) (hone:∀u,u∈us→u.oneCell'=true)
 (hfz:∀t,t<n*7→w.frozen? ⟨blk,off+t,none⟩=false) (hcap:n≤cap) (hk:k<n) (hj:j=k+1) :
 Calls Tryz.prog 131 #[.slice (some ⟨blk,off,none⟩) n cap,.int .i64 k,.int .i64 (j:Int)] w λe w'=>e=.returned (.slice (some ⟨blk,off,none⟩) (n - 1) cap) ∧
  w'=((w.drew.setCells blk (off+k*7) (us.drop (j*7))).setCells blk (off+(n - 1)*7) [.int .i64 0,.int .i64 0,.int .i64 0,.int .i64 0,.int .i64 0,.int .i64 0,.string ⟨#[]⟩]):=by
 have t27:Tryz.prog.underlying 31=some (.slice 65):=by kernel_rfl
 obtain⟨i0,z0,hi,hz,hs,hzs,hb⟩:=qmo (P:=Tryz.prog) (t:=65) (sz:=7) (by kernel_rfl)
 have hlt:k<j:=by omega
 obtain⟨news,hnews⟩:∃news,news=us.drop (j*7):=⟨_,rfl⟩
 have hlen:news.length=(n - j)*7:=by rw[hnews];simp;omega
 obtain⟨A,hA,hsrc⟩:∃A:Addr,(if cap=j then some (⟨blk,off,none⟩:Addr) else some ⟨blk,off+j*7,none⟩)=some A∧Hid (∀(t:Nat) u,news[t]?=some u→w.drew.cell? (A.add t)=some u):=by
  by_cases h:cap=j
  ·refine⟨⟨blk,off,none⟩,by simp[h],λt u hu=>?_⟩
   have h0:news.length=0:=by rw[hlen];omega
   rw[List.length_eq_zero_iff.1 h0] at hu
   simp at hu
  ·refine⟨⟨blk,off+j*7,none⟩,by simp[h],λt u hu=>?_⟩
   rw[hnews,List.getElem?_drop] at hu
   rw[Addr.add_lit,Nat.add_assoc]
   exact hcl _ u hu
 have s1:Hid (news.length=(n - j)*7):=hlen
 have s2:Hid (∀u∈news,u.oneCell'=true):=λu hu=>hone u (by rw[hnews] at hu;exact List.mem_of_mem_drop hu)
 have s3:Hid (∀t,t<news.length→(w.drew.cell? ⟨blk,off+k*7+t,none⟩).isSome=true∧w.drew.frozen? ⟨blk,off+k*7+t,none⟩=false):=by
  intro t ht
  rw[hlen] at ht
  have hlt:k*7+t<us.length:=by rw[hl];omega
  rw[Nat.add_assoc]
  refine⟨?_,hfz _ (by omega)⟩
  show(w.cell? _).isSome=true
  rw[hcl (k*7+t) _ (zE hlt)]
  rfl
 obtain⟨W1,hW1⟩:∃W1,W1=w.drew.setCells blk (off+k*7) news:=⟨_,rfl⟩
 have hz':∀w,(zeroValue 65).run Tryz.prog w=.ok (.agg #[.int .i64 0,.int .i64 0,.int .i64 0,.int .i64 0,.int .i64 0,.int .i64 0,.string ⟨#[]⟩]) w:=λw=>by kernel_rfl
 have hcl2:∀ty,(Builtin.clear_ #[31] ty #[.slice (some ⟨blk,off+(k+(n - j))*7,none⟩) (n - (k+(n - j))) (cap - (k+(n - j)))]).run Tryz.prog W1=.ok (.tuple #[]) (W1.setCells blk (off+(k+(n - j))*7) [.int .i64 0,.int .i64 0,.int .i64 0,.int .i64 0,.int .i64 0,.int .i64 0,.string ⟨#[]⟩]):=λty=>by
  rw[show n - (k+(n - j))=1 by omega]
  refine qaz W1 _ _ ty _ t27 hz' (by simp[Value.cells,Value.oneCell']) blk _ _ (λj' hj'=>?_) (λj' hj'=>?_)
  ·have hlt:(n - 1)*7+j'<us.length:=by rw[hl];simp[Value.cells] at hj';omega
   have e:off+(k+(n - j))*7+j'=off+((n - 1)*7+j'):=by rw[show k+(n - j)=n - 1 by omega];omega
   rw[e,hW1,World.cell?_setCells_out _ _ _ _ _ (λ_ _=>.inr (by rw[hlen];simp only;omega))]
   show(w.cell? _).isSome=true
   rw[hcl _ _ (zE hlt)]
   rfl
  ·have e:off+(k+(n - j))*7+j'=off+((n - 1)*7+j'):=by rw[show k+(n - j)=n - 1 by omega];omega
   rw[e,hW1,World.frozen?_setCells]
   exact hfz _ (by simp[Value.cells] at hj';omega)
 have hW:Hid (W1=w.drew.setCells blk (off+k*7) news):=hW1
 have hkc:k≤cap:=by omega
 have hkc1:j≤cap:=by omega
 have hjn:j≤n:=by omega
 have hx:Hid (j=k+1∧news=us.drop (j*7)):=⟨hj,hnews⟩
 clear hW1 hnews hlen hcl hfz hone hj
 go_enter Tryz.func131,Tryz.ntmps131
 go_wp2_with fail
 go_region_law (refine step_append_room rfl (.tmp 22) (.tmp 25) 31 rfl 65 i0 7 t27 hi hs blk off k cap (by simp[Act.eval,Act.put]) A (n - j) (cap - j) news (by simp[Act.eval,Act.put,hA]) s1.out hsrc.out s2.out (by omega) s3.out ?_;rw[←hW.out])
 go_wp2
 go_ret
 have e2:k+(n - j)=n - 1:=by have:=hx.out.1;omega
 refine⟨by simp[e2],by rw[hW.out,hx.out.2,e2]⟩
theorem q7s {α β:Type} (f:α→β):∀(l:List α) (k:Nat),(l.map f).eraseIdx k=(l.eraseIdx k).map f
 | [],_=>rfl
 | _::_,0=>rfl
 | a::l,k+1=>by simp[q7s f l k]
def DelM (P:Program) (f:FuncId) (sz:Nat) (zr:List Value):Prop:=∀(blk off cap n k j:Nat) (us:List Value) (w:World),us.length=n*sz→(∀(t:Nat) u,us[t]?=some u→w.cell? ⟨blk,off+t,none⟩=some u)→(∀u,u∈us→u.oneCell'=true) →
 (∀t,t<n*sz→w.frozen? ⟨blk,off+t,none⟩=false)→n≤cap→k<n→j=k+1 →
 Calls P f #[.slice (some ⟨blk,off,none⟩) n cap,.int .i64 k,.int .i64 (j:Int)] w λe w'=>e=.returned (.slice (some ⟨blk,off,none⟩) (n - 1) cap)∧w'=((w.drew.setCells blk (off+k*sz) (us.drop (j*sz))).setCells blk (off+(n - 1)*sz) zr)
theorem qls {w:World} {O:Nat→Prop} {ρ:Nat→VL.Loc} {h:Nat→Hs} {a b c:V} {us:List Value} (hargs:DenArgs w O ρ h [a,b,c] us):∃x y z,us=[x,y,z]∧Den w O ρ h a x∧Den w O ρ h b y∧Den w O ρ h c z:=by
 obtain⟨h1,h2⟩:=hargs
 match us,h1 with
 | [x,y,z],_=>exact⟨x,y,z,rfl,h2 0 _ _ rfl rfl,h2 1 _ _ rfl rfl,h2 2 _ _ rfl rfl⟩
set_option maxHeartbeats 400000
theorem ql7 {P:Program} {G:Glob} {f:FuncId} (hn:entr P f=true) {sz:Nat} {zr:List Value} (h:DelM P f sz zr) (hzr:zr.length=sz) (ty:Nat) (rows:List (List V)) (n k:Nat) (hrn:rows.length=n) (hk:k<n) :
 FnP P G f 0 [.arr ty sz rows] [.own 0 n,.int .i64 (k:Int),.int .i64 ((k:Int)+1)] (λr o=>r=.own 0 (n - 1)∧o=[.arr ty sz (rows.eraseIdx k)]) where
 en:=hn
 ne:=⟨_,_,rfl,rfl⟩
 run:=λW ρ ext us0 hg hlt hno hng r hargs=>by
  obtain⟨u,u1,u2,rfl,hd,hd1,hd2⟩:=qls hargs
  have e1:=q5l hd1
  have e2:=q5l hd2
  subst e1 e2
  have h0:∀R,chH [Hs.arr ty sz R] 0=.arr ty sz R:=λ_=>rfl
  have h1:∀R c,c≠0→chH [Hs.arr ty sz R] c=.fresh:=λR c hc=>by
   match c,hc with
   | c+1,_=>simp[chH]
  have hl:∀R c,(chH [Hs.arr ty sz R] c).live=true→c=0:=λR c hc=>by
   by_cases h':c=0
   ·exact h'
   ·rw[h1 R c h'] at hc;cases hc
  have hl0:∀R,(chH [Hs.arr ty sz R] 0).live=true:=λR=>rfl
  have hd:u=(ρ 0).sl n:=by
   simp only[Den,Den2,Den1,Den0,h0] at hd
   exact hd
  subst hd
  have hch:=r.chunk 0
  rw[h0] at hch
  rcases hch with⟨_,e,_⟩|⟨hnil,cs,hcs,hsz,hcap,hrl,hrows⟩
  ·rw[e] at hrn;simp at hrn;omega
  have hlt0:(ρ 0).blk<W.heap.size:=q2c hcs
  have hown:owns ⟨W,blocks ρ (chH [.arr ty sz rows]),ext,0,ρ⟩ ρ (chH [.arr ty sz rows]) (ρ 0).blk:=.inr ⟨0,hl0 _,hnil,rfl⟩
  obtain⟨us,hu1,hu2,hu3,hu4⟩:=q5j (w:=W) (rows:=rows) (sz:=sz) (blk:=(ρ 0).blk) (off:=(ρ 0).off) hrl (λi x j y hx hy=>by
   obtain⟨z,hz1,hz2⟩:=hrows i x j y hx hy
   exact⟨z,q7g _ _ _ _ _ _ _ hcs hz1,hz2⟩)
  have hsl:(ρ 0).sl n=.slice (some ⟨(ρ 0).blk,(ρ 0).off,none⟩) n (ρ 0).cap:=by simp[VL.Loc.sl,VL.Loc.addr,hnil]
  rw[hrn] at hu1
  have hcell:∀(t:Nat) u,us[t]?=some u→W.cell? ⟨(ρ 0).blk,(ρ 0).off+t,none⟩=some u:=λt u hu=>by
   have:=hu2 t u hu
   rwa [Addr.add_lit] at this
  have run:=h (ρ 0).blk (ρ 0).off (ρ 0).cap n k (k+1) us W hu1 hcell hu3 (λt ht=>by simp[World.frozen?,hcs]) (by omega) hk rfl
  rw[hsl]
  have ecast:((k+1:Nat):Int)=(k:Int)+1:=by omega
  rw[ecast] at run
  refine run.mono λe w' ⟨he,hw⟩=>?_
  have hn1:(n - 1)*sz+sz=n*sz:=by rw[←Nat.succ_mul];congr 1;omega
  have hk1:(k+1)*sz=k*sz+sz:=Nat.succ_mul k sz
  have hkn:(k+1)*sz≤n*sz:=Nat.mul_le_mul_right _ hk
  have hcapn:n*sz≤(ρ 0).cap*sz:=Nat.mul_le_mul_right _ (by omega)
  have hdl:(us.drop ((k+1)*sz)).length=n*sz - (k+1)*sz:=by simp[hu1]
  obtain⟨a1,a2,a3,a4,a5⟩:=q1b (ρ 0).blk (us.drop ((k+1)*sz)) ((ρ 0).off+k*sz) W.drew
  obtain⟨b1,b2,b3,b4,b5⟩:=q1b (ρ 0).blk zr ((ρ 0).off+(n - 1)*sz) (W.drew.setCells (ρ 0).blk ((ρ 0).off+k*sz) (us.drop ((k+1)*sz)))
  obtain⟨c1,m1,m2,m3⟩:=q1a (ρ 0).blk ty (0,0) (us.drop ((k+1)*sz)) ((ρ 0).off+k*sz) W.drew cs hcs (by rw[hdl];omega)
  obtain⟨c2,n1,n2,n3⟩:=q1a (ρ 0).blk ty (0,0) zr ((ρ 0).off+(n - 1)*sz) _ c1 m1 (by rw[hzr,m2];omega)
  rw[←hw] at b1 b2 b3 b4 b5 n1
  have bel:∀b,b≠(ρ 0).blk→w'.heap[b]?=W.heap[b]?:=λb hb=>(b5 b hb).trans (a5 b hb)
  have hsize:w'.heap.size=W.heap.size:=b4.trans a4
  refine⟨_,_,_,ρ,he,⟨rfl,rfl⟩,⟨(b1.trans a1).trans r.os,(b2.trans a2).trans r.tape,(b3.trans a3).trans r.output,by rw[hsize];exact r.grow,λb hb1 hb2=>(bel b λhx=>hb2 ⟨0,hl0 _,by rw[hx];exact⟨hnil,rfl⟩⟩).trans (r.keep b hb1 hb2),λc=>?_,λc hc hnl=>?_,λc c' hc hc' _ _ _=>(hl _ c hc).trans (hl _ c' hc').symm,λi hi=>absurd hi (Nat.not_lt_zero _)⟩, ?_⟩
  ·by_cases hc:c=0
   ·subst hc
    rw[h0]
    refine .inr ⟨hnil,c2,n1,by rw[n2,m2];exact hsz,by rw[List.length_eraseIdx];split<;>omega,λx hx=>hrl x (List.mem_of_mem_eraseIdx hx),λi x j y hx hy=>?_⟩
    have hjs:j<sz:=by
     have:=hrl x (List.mem_of_mem_eraseIdx (List.mem_of_getElem? hx))
     have h2:=(List.getElem?_eq_some_iff.1 hy).1
     omega
    have him:i<n - 1:=by
     have:=(List.getElem?_eq_some_iff.1 hx).1
     rw[List.length_eraseIdx] at this
     split at this<;>omega
    have him2:(i+1)*sz≤(n - 1)*sz:=Nat.mul_le_mul_right _ him
    have hi1:(i+1)*sz=i*sz+sz:=Nat.succ_mul i sz
    have tail:∀q z,us[q*sz+j]?=some z→Imm W (owns ⟨W,blocks ρ (chH [.arr ty sz rows]),ext,0,ρ⟩ ρ (chH [.arr ty sz rows])) y z→Imm w' (owns ⟨W,blocks ρ (chH [.arr ty sz rows]),ext,0,ρ⟩ ρ (chH [.arr ty sz (rows.eraseIdx k)])) y z:=λq z _ hz=>by
     refine hz.mono (Nat.le_of_eq hsize.symm) (λb hb1 hb2=>bel b λhx=>hb2 (hx▸hown)) λb hb1 ho=>?_
     rcases ho with ho|⟨c,hc,hnl,hb⟩
     ·exact .inl ho
     ·obtain rfl:=hl _ c hc
      exact .inr ⟨0,hl0 _,hnl,hb⟩
    rw[n3,if_neg (by omega),m3]
    rw[List.getElem?_eraseIdx] at hx
    by_cases hik:i<k
    ·rw[if_pos hik] at hx
     have hi2:(i+1)*sz≤k*sz:=Nat.mul_le_mul_right _ hik
     obtain⟨z,hz1,hz2⟩:=hu4 i x j y hx hy
     refine⟨z, ?_,tail i z hz1 hz2⟩
     rw[if_neg (by omega)]
     have:=hcell _ _ hz1
     simpa[World.cell?,hcs] using this
    ·rw[if_neg hik] at hx
     have hi2:k*sz≤i*sz:=Nat.mul_le_mul_right _ (by omega)
     obtain⟨z,hz1,hz2⟩:=hu4 (i+1) x j y hx hy
     refine⟨z, ?_,tail (i+1) z hz1 hz2⟩
     rw[if_pos (by rw[hdl];omega),List.getElem?_drop]
     rw[←hz1]
     congr 1
     omega
   ·rw[h1 _ c hc];trivial
  ·obtain rfl:=hl _ c hc
   exact r.home 0 (hl0 _) hnl
  ·simp only[Den,Den2,Den1,Den0,h0]
   exact(by simp[VL.Loc.sl,VL.Loc.addr,hnil])
theorem e131:entr Tryz.prog 131=true:=by kernel_rfl
theorem o131 (ps:List M.Pk) (k:Nat) (hk:k<ps.length):FnP Tryz.prog G 131 0 [.arr 65 7 (ps.map M.Pk.row)] [.own 0 ps.length,.int .i64 (k:Int),.int .i64 ((k:Int)+1)] (λr o=>r=.own 0 (ps.length - 1)∧o=[.arr 65 7 ((ps.eraseIdx k).map M.Pk.row)]):=by
 have:=ql7 (G:=G) e131 m131 rfl 65 (ps.map M.Pk.row) ps.length k (by simp) hk
 rw[q7s] at this
 exact this
end Go.Proofs.YtpnekhiejecipaaGreatDoor.W
