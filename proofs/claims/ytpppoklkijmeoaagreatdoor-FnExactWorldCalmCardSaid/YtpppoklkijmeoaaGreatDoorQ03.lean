/- Part 3 of the proof: the walk over values, the plain model, contracts of the functions of the program. -/
import Derived.Test.YtpppoklkijmeoaaGreatDoorQ02
import Derived.Test.YtpppoklkijmeoaaGreatDoorChecked
import Derived.Shelf.LaysC
import Derived.Shelf.LaysM
import Derived.Shelf.Strings.Builder1
import Derived.Shelf.Small.Wraps
import Derived.Shelf.Strconv.Itoa3
import Derived.Shelf.Strconv.Clone
import Derived.Shelf.Strings.Cut
import Derived.Test.YtpppoklkijmeoaaGreatDoorProg
import Derived.OwnWalk
import Derived.WalkKit
import Derived.Deep.LoopGhost
import Derived.Lib.Walk
import Derived.Lib.SliceRun
import Derived.Shelf.Strings.OnBuilder
import Derived.Deep.RegionLaw
import Derived.Sort.WalkB12
import Derived.Shelf.Strconv.AtoiAll
set_option linter.all false
namespace Go.Proofs.YtpppoklkijmeoaaGreatDoor.M
def fits:List Pc→B→Prop
 | [],_=>True
 | p::ps,s=>p.size≤s.length∧fits ps (s.drop p.size)
theorem qei (m:List Pair) (p:Pc) (s:B) (out:Bool):(turn m p s out).2.length≤s.length+6∧(turn m p s out).1.length≤m.length+1:=by
 cases out
 ·simp only[turn,q2i,cond_false]
  refine⟨?_,by omega⟩
  split
  ·split
   ·rename_i e _;have:=qah e;omega
   ·omega
  ·omega
 ·simp only[turn,q0u,cond_true]
  split
  ·have h:=qlk m p.e
   rcases hmo:M.mOut m p.e with⟨x,port,ok⟩
   rw[hmo] at h
   cases ok<;>simp only at h ⊢
   ·omega
   ·have:=qah ⟨9,port⟩;omega
  ·simp only;omega
theorem PortsOk.turn {m:List Pair} (h:PortsOk m) (p:Pc) (s:B) (out:Bool):PortsOk (turn m p s out).1:=by
 cases out
 ·exact h
 ·simp only[M.turn,q0u,cond_true]
  split
  ·have h2:=h.mOut (e:=p.e)
   rcases hmo:M.mOut m p.e with⟨x,port,ok⟩
   rw[hmo] at h2
   cases ok
   ·exact h
   ·exact h2
  ·exact h
theorem qg6 {s:B} {e:E} (h:q15 s=some e) (r:B):q15 (s++r)=some e:=by
 obtain⟨h1,q,rfl⟩:=q2s h
 rw[List.append_assoc]
 exact q64 h1 _
theorem qcp {s r:B} {e:E} (h:q15 (s++r)=some e) (hl:(name e).length≤s.length):q15 s=some e:=by
 obtain⟨h1,q,hq⟩:=q2s h
 have:s=name e++s.drop (name e).length:=by
  have h2:=congrArg (List.take (name e).length) hq
  rw[List.take_append_of_le_length hl,List.take_left'] at h2
  ·conv=>lhs;rw[←List.take_append_drop (name e).length s,h2]
  ·rfl
 rw[this]
 exact q64 h1 _
theorem qrb:∀(n:Nat) (s r:B),s.length≤n→(∀i e,i<s.length→q15 ((s++r).drop i)=some e→i+(name e).length≤s.length)→pcs (s++r)=pcs s++pcs r:=by
 intro n
 induction n with
 | zero =>
   intro s r hs _
   have:s=[]:=List.eq_nil_of_length_eq_zero (by omega)
   subst this;rfl
 | succ n ih =>
   intro s r hs H
   by_cases h:s=[]
   ·subst h;rfl
   have hp:0<s.length:=List.length_pos_iff.2 h
   have hne:s++r≠[]:=by simp[h]
   have key:pc1 (s++r)=pc1 s:=by
    unfold pc1
    cases hn:q15 (s++r) with
    | some e =>
      have:=H 0 e hp (by simpa using hn)
      rw[qcp hn (by omega)]
    | none =>
      cases hs:q15 s with
      | none=>rfl
      | some e=>rw[qg6 hs r] at hn;cases hn
   obtain⟨p1,p2,_⟩:=q37 h
   rw[q3q hne,q3q h,key,List.drop_append_of_le_length p2,List.cons_append]
   congr 1
   refine ih _ _ (by simp;omega) λi e hi hn=>?_
   have hi':i<s.length - (pc1 s).size:=by simpa using hi
   have:=H (i+(pc1 s).size) e (by omega) (by rw[Nat.add_comm,←List.drop_drop,List.drop_append_of_le_length p2];exact hn)
   simp;omega
theorem qoc:∀(n:Nat) (s:B),s.length≤n→((pcs s).map (·.size)).sum=s.length:=by
 intro n
 induction n with
 | zero =>
   intro s hs
   have:s=[]:=List.eq_nil_of_length_eq_zero (by omega)
   subst this;rfl
 | succ n ih =>
   intro s hs
   by_cases h:s=[]
   ·subst h;rfl
   obtain⟨p1,p2,_⟩:=q37 h
   rw[q3q h,List.map_cons,List.sum_cons,ih _ (by simp;omega)]
   simp;omega
theorem qmp:∀(n:Nat) (s r:B),s.length≤n→fits (pcs s) (s++r):=by
 intro n
 induction n with
 | zero =>
   intro s r hs
   have:s=[]:=List.eq_nil_of_length_eq_zero (by omega)
   subst this;trivial
 | succ n ih =>
   intro s r hs
   by_cases h:s=[]
   ·subst h;trivial
   obtain⟨p1,p2,_⟩:=q37 h
   rw[q3q h]
   refine⟨by simp;omega, ?_⟩
   rw[List.drop_append_of_le_length p2]
   exact ih _ _ (by simp;omega)
theorem qbt (t:B):∀n,0<q3g t n→q62 (t.drop (t.length - q3g t n))=true
 | 0,h=>by simp[q3g] at h
 | n+1,h=>by
   simp only[q3g] at h ⊢
   split
   ·rename_i hc
    simp only[Bool.and_eq_true] at hc
    exact hc.2
   ·rename_i hc
    rw[if_neg hc] at h
    exact qbt t n h
theorem qcd (t:B):∀n k,k≤n→k≤t.length→0<k→q62 (t.drop (t.length - k))=true→k≤q3g t n
 | 0,k,hk,_,h0,_=>by omega
 | n+1,k,hk,hl,h0,hb=>by
   simp only[q3g]
   by_cases hc:(decide (n+1≤t.length)&&q62 (t.drop (t.length - (n+1))))=true
   ·rw[if_pos hc];exact hk
   ·rw[if_neg hc]
    rcases Nat.lt_or_ge k (n+1) with h|h
    ·exact qcd t n k (by omega) hl h0 hb
    ·obtain rfl:k=n+1:=by omega
     exact absurd (by simp[hl,hb]) hc
theorem qe4 {t:B} (h:0<held t):q62 (t.drop (t.length - held t))=true:=qbt t 5 h
theorem qdm {t:B} {k:Nat} (hk:k≤5) (hl:k≤t.length) (h0:0<k) (hb:q62 (t.drop (t.length - k))=true):k≤held t:=qcd t 5 k hk hl h0 hb
theorem qrd (t:B):held t≤5∧held t≤t.length:=by
 have key:∀n,q3g t n≤n∧q3g t n≤t.length:=λn=>by
  induction n with
  | zero=>exact⟨Nat.le_refl _,Nat.zero_le _⟩
  | succ n ih =>
    simp only[q3g]
    split
    ·rename_i h;simp at h;omega
    ·omega
 exact key 5
theorem qib {s:B} (h:q62 s=true) {k:Nat} (h0:0<k) (hk:k≤s.length):q62 (s.take k)=true:=by
 rcases s with _|⟨a,_|⟨b,_|⟨c,_|⟨d,_|⟨e,_|⟨f,r⟩⟩⟩⟩⟩⟩
 ·cases h
 all_goals(try(simp[q62] at h;done))
 all_goals
  simp only[zC,zN] at hk
  match k,h0,hk with
  | 1,_,_=>simp_all[q62]
  | 2,_,_=>simp_all[q62]
  | 3,_,_=>simp_all[q62]
  | 4,_,_=>simp_all[q62]
  | 5,_,_=>simp_all[q62]
theorem qhx {s:B} (h:q62 s=true):s.length≤5∧∃r,s=64::r:=by
 rcases s with _|⟨a,_|⟨b,_|⟨c,_|⟨d,_|⟨e,_|⟨f,r⟩⟩⟩⟩⟩⟩<;>simp_all[q62]
theorem qky:∀e∈qge,∀k∈[1,2,3,4,5],k<(name e).length→q62 ((name e).take k)=true:=by decide
theorem qkk {e:E} (h:e.any=true) {k:Nat} (h0:0<k) (hk:k<(name e).length):q62 ((name e).take k)=true:=by
 have hl:=q5a h
 refine qky e (E.any_iff.1 h) k ?_ hk
 have:k≤5:=by split at hl<;>omega
 simp;omega
theorem qp1 {e:E} {j:Nat} (h0:0<j):(name e)[j]?≠some 64:=by
 obtain⟨j,rfl⟩:∃i,j=i+1:=⟨j - 1,by omega⟩
 simp only[name,List.getElem?_cons_succ]
 intro hc
 have:=List.mem_of_getElem? hc
 rcases List.mem_append.1 this with h|h
 ·exact qhb h
 ·simp at h
theorem qkl (s t:B):held (s++t)≤held s+t.length:=by
 rcases Nat.lt_or_ge t.length (held (s++t)) with h|h
 ·have hb:=qe4 (t:=s++t) (by omega)
  have h5:=qrd (s++t)
  simp only[zA] at h5 hb
  have hk:0<held (s++t) - t.length:=by omega
  have h2:=qib hb hk (by simp;omega)
  have e1:((s++t).drop (s.length+t.length - held (s++t))).take (held (s++t) - t.length)=s.drop (s.length - (held (s++t) - t.length)):=by
   rw[List.drop_append_of_le_length (by omega),List.take_append_of_le_length (by simp;omega)]
   rw[List.take_of_length_le (by simp;omega)]
   congr 1;omega
  rw[e1] at h2
  have:=qdm (by omega) (by omega) hk h2
  omega
 ·omega
theorem q7w (s t:B):body (s++t)=body s++(body (s++t)).drop (body s).length:=by
 have h1:=qkl s t
 have h5:=qrd s
 have:body s=(body (s++t)).take (body s).length:=by
  rw[q4m]
  unfold body
  rw[List.take_take,zA,Nat.min_eq_left (by omega),List.take_append_of_le_length (by omega)]
 conv=>lhs;rw[←List.take_append_drop (body s).length (body (s++t)),←this]
theorem q9c (s t:B):pieces (s++t)=pieces s++pcs ((body (s++t)).drop (body s).length):=by
 rw[q3h,q3h]
 conv=>lhs;rw[q7w]
 refine qrb _ _ _ (Nat.le_refl _) λi e hi hn=>?_
 rw[←q7w] at hn
 obtain⟨ha,q,hq⟩:=q2s hn
 have hu:∃q',(s++t).drop i=name e++q':=by
  refine⟨q++(s++t).drop ((s++t).length - held (s++t)), ?_⟩
  rw[←List.append_assoc,←hq]
  have:s++t=body (s++t)++(s++t).drop ((s++t).length - held (s++t)):=(List.take_append_drop _ _).symm
  conv=>lhs;rw[this]
  rw[List.drop_append_of_le_length]
  have h1:=congrArg List.length (q7w s t)
  simp only[zA] at h1
  omega
 obtain⟨q',hq'⟩:=hu
 have hnl:=q5a ha
 have hbl:=q4m s
 have h5:=qrd s
 rcases Nat.lt_or_ge (body s).length (i+(name e).length) with hlt|hge
 ·exfalso
  by_cases hh:held s=0
  ·have hk:0<s.length - i:=by omega
   have hkl:s.length - i<(name e).length:=by omega
   have hb:=qkk ha hk hkl
   have e1:(name e).take (s.length - i)=s.drop (s.length - (s.length - i)):=by
    have h2:=congrArg (List.take (s.length - i)) hq'
    rw[List.take_append_of_le_length (by omega),List.drop_append_of_le_length (by omega),List.take_append_of_le_length (by simp),List.take_of_length_le (by simp)] at h2
    rw[←h2];congr 1;omega
   rw[e1] at hb
   have:=qdm (by split at hnl<;>omega) (by omega) hk hb
   omega
  ·have hb:=qe4 (t:=s) (by omega)
   obtain⟨_,r,hr⟩:=qhx hb
   have e1:(s++t)[(body s).length]?=some 64:=by
    rw[List.getElem?_append_left (by omega),hbl]
    have:=congrArg (λl=>l[0]?) hr
    simpa using this
   have e2:(s++t)[(body s).length]?=(name e)[(body s).length - i]?:=by
    have:=congrArg (λl=>l[(body s).length - i]?) hq'
    simp only[List.getElem?_drop] at this
    rw[show i+((body s).length - i)=(body s).length by omega] at this
    rw[this,List.getElem?_append_left (by omega)]
   rw[e2] at e1
   exact qp1 (by omega) e1
 ·exact hge
def SB (s:Strm):Prop:=s.inn.length≤2000000∧s.parts.length≤2000000∧∀p∈s.parts,p.text.length≤2000000
def StrB (s:Strm):Prop:=s.inn.length≤40∧s.parts.length≤40∧∀p∈s.parts,(1≤p.size∧p.size≤6)∧1≤p.text.length∧p.text.length≤6∧txOk p.text=true
theorem q4l:∀ {ps:List Part} {qs:List Pc},q0r ps qs=true→ps.length=qs.length
 | [],[],_=>rfl
 | p::ps,q::qs,h=>by
   simp only[q0r,Bool.and_eq_true] at h
   simp[q4l h.2]
 | [],_::_,h=>by simp[q0r] at h
 | _::_,[],h=>by simp[q0r] at h
theorem q9h:∀ {ps:List Part} {qs:List Pc},q0r ps qs=true→∀(i:Nat) p q,ps[i]?=some p→qs[i]?=some q→q4u p q=true
 | [],[],_,i,p,q,h,_=>by simp at h
 | p::ps,q::qs,h,i,p',q',h1,h2=>by
   simp only[q0r,Bool.and_eq_true] at h
   cases i with
   | zero=>simp at h1 h2;subst h1 h2;exact h.1
   | succ i=>exact q9h h.2 i p' q' (by simpa using h1) (by simpa using h2)
 | [],_::_,h,_,_,_,_,_=>by simp[q0r] at h
 | _::_,[],h,_,_,_,_,_=>by simp[q0r] at h
theorem qgy:∀(n:Nat) (s:B),s.length≤n→∀q∈pcs s,1≤q.size∧q.size≤6:=by
 intro n
 induction n with
 | zero =>
   intro s hs
   have:s=[]:=List.eq_nil_of_length_eq_zero (by omega)
   subst this;intro q hq;cases hq
 | succ n ih =>
   intro s hs q hq
   by_cases h:s=[]
   ·subst h;cases hq
   obtain⟨p1,p2,p3⟩:=q37 h
   rw[q3q h] at hq
   rcases List.mem_cons.1 hq with rfl|hq
   ·exact⟨p1,p3⟩
   ·exact ih _ (by simp;omega) q hq
theorem q7a (t:B):∀q∈pieces t,1≤q.size∧q.size≤6:=by
 rw[q3h];exact qgy _ _ (Nat.le_refl _)
theorem q7t {t:B} (h:txOk t=true):t.length≤40:=by
 simp only[txOk,Bool.and_eq_true,decide_eq_true_eq] at h;exact h.2
theorem q29 {p:Part} {q:Pc}:q4u p q=true↔p.size=q.size∧(1≤p.text.length∧p.text.length≤6)∧txOk p.text=true:=by
 simp only[q4u,Bool.and_eq_true,decide_eq_true_eq,within_iff]
 constructor
 ·rintro⟨⟨a,b⟩,c⟩;exact⟨a,by omega,c⟩
 ·rintro⟨a,b,c⟩;exact⟨⟨a,by omega⟩,c⟩
theorem q0t {s:Strm} (h:strmOk s=true):StrB s:=by
 simp only[strmOk,Bool.and_eq_true] at h
 have hl:=q4l h.2
 have h40:=q7t h.1
 have:=q3c s.inn
 refine⟨h40,by omega,λp hp=>?_⟩
 obtain⟨i,hi⟩:=List.getElem?_of_mem hp
 have hil:=(List.getElem?_eq_some_iff.1 hi).1
 have hq:=zE (show i<(pieces s.inn).length by omega)
 obtain⟨a,b,c⟩:=q29.1 (q9h h.2 i _ _ hi hq)
 have:=q7a s.inn _ (List.getElem_mem (show i<(pieces s.inn).length by omega))
 exact⟨by omega,b.1,b.2,c⟩
theorem StrB.sb {s:Strm} (h:StrB s):SB s:=⟨by have:=h.1;omega,by have:=h.2.1;omega,λp hp=>by have:=(h.2.2 p hp).2.2.1;omega⟩
theorem q9j (p:Part) (l:List Part):doneP (p::l)=p.size.toNat+doneP l:=by simp[doneP]
theorem q7e:∀ {ps:List Part} {qs:List Pc},q0r ps qs=true→doneP ps=(qs.map (·.size)).sum
 | [],[],_=>rfl
 | p::ps,q::qs,h=>by
   simp only[q0r,Bool.and_eq_true] at h
   have:=(q29.1 h.1).1
   rw[q9j,q7e h.2,this];simp
 | [],_::_,h=>by simp[q0r] at h
 | _::_,[],h=>by simp[q0r] at h
theorem q8t {s:Strm} (h:strmOk s=true):doneP s.parts=(body s.inn).length∧s.parts.length=(pieces s.inn).length:=by
 simp only[strmOk,Bool.and_eq_true] at h
 refine⟨?_,q4l h.2⟩
 rw[q7e h.2,q3h,qoc _ _ (Nat.le_refl _)]
theorem qao {s:Strm} (h:strmOk s=true) (t:B):s.parts.length≤(pieces (s.inn++t)).length∧(pieces (s.inn++t)).drop s.parts.length=pcs ((body (s.inn++t)).drop (body s.inn).length) ∧
 doneP s.parts≤(s.inn++t).length∧fits ((pieces (s.inn++t)).drop s.parts.length) ((s.inn++t).drop (doneP s.parts)):=by
 obtain⟨h1,h2⟩:=q8t h
 have hp:=q9c s.inn t
 have hb:=q7w s.inn t
 have e1:(pieces (s.inn++t)).drop s.parts.length=pcs ((body (s.inn++t)).drop (body s.inn).length):=by
  rw[hp,h2,List.drop_left']
  rfl
 refine⟨by rw[hp,h2];simp,e1,by rw[h1,q4m];simp;omega, ?_⟩
 rw[e1,h1]
 have:s.inn++t=body (s.inn++t)++(s.inn++t).drop ((s.inn++t).length - held (s.inn++t)):=(List.take_append_drop _ _).symm
 conv=>rhs;rw[this]
 have hl:=congrArg List.length hb
 simp only[zA] at hl
 rw[List.drop_append_of_le_length (by omega)]
 exact qmp _ _ _ (Nat.le_refl _)
theorem forP_rng {l:List Part} (h:∀p∈l,p.text.length≤6):∀i,0≤q1l l i∧q1l l i≤6*l.length:=by
 induction l with
 | nil=>intro i;simp[q1l]
 | cons p l ih =>
   intro i
   have:=ih (λq hq=>h q (by simp[hq])) (i - p.size)
   have:=h p (by simp)
   simp only[q1l,zC]
   split<;>omega
theorem qh5 {l:List Part} (h:∀p∈l,0≤p.size∧p.size≤6):∀i,0≤q38 l i∧q38 l i≤6*l.length:=by
 induction l with
 | nil=>intro i;simp[q38]
 | cons p l ih =>
   intro i
   have:=ih (λq hq=>h q (by simp[hq])) (i - p.text.length)
   have:=h p (by simp)
   simp only[q38,zC]
   split<;>omega
def qld (l:List Part):B:=l.flatMap (·.text)
theorem qim {l:List Part} {i:Nat} (h:i<l.length):qld (l.take (i+1))=qld (l.take i)++l[i].text:=by
 unfold qld
 rw[List.take_add_one,zE h,List.flatMap_append]
 simp
theorem qgi {l:List Part} (h:∀p∈l,p.text.length≤6) (i:Nat):(qld (l.take i)).length≤6*l.length:=by
 have key:∀(l:List Part),(∀p∈l,p.text.length≤6)→(qld l).length≤6*l.length:=by
  intro l
  induction l with
  | nil=>intro _;simp[qld]
  | cons p l ih =>
    intro h
    have:=ih λq hq=>h q (by simp[hq])
    have:=h p (by simp)
    simp only[qld,List.flatMap_cons,zA,zC] at *
    omega
 have:=key (l.take i) λp hp=>h p (List.mem_of_mem_take hp)
 simp only[List.length_take] at this
 omega
theorem q96 {l:List Part} {i:Nat} (h:i<l.length):doneP (l.take (i+1))=doneP (l.take i)+l[i].size.toNat:=by
 unfold doneP
 rw[List.take_add_one,zE h,List.map_append,List.sum_append]
 rfl
theorem qec {l:List Part} (h:∀p∈l,p.size≤6) (i:Nat):doneP (l.take i)≤6*l.length:=by
 have key:∀(l:List Part),(∀p∈l,p.size≤6)→doneP l≤6*l.length:=by
  intro l
  induction l with
  | nil=>intro _;simp[doneP]
  | cons p l ih =>
    intro h
    have:=ih λq hq=>h q (by simp[hq])
    have:=h p (by simp)
    rw[q9j,zC]
    omega
 have:=key (l.take i) λp hp=>h p (List.mem_of_mem_take hp)
 simp only[List.length_take] at this
 omega
theorem q73 {c:B} {n:Int} {t:B} (h:(q0a c n t).2=true):∃x,(q0a c n t).1=c++x∧x.length≤t.length:=by
 unfold q0a at h ⊢
 split
 ·rename_i hc;rw[if_pos hc] at h;cases h
 ·split
  ·exact⟨[],by simp,by simp⟩
  ·exact⟨_,rfl,by simp⟩
theorem q4o:∀ {l:List Pc} {ts:List B},ts.length=l.length→(q0w l ts).length=l.length
 | [],[],_=>rfl
 | p::ps,b::bs,h=>by simp[q0w,q4o (l:=ps) (ts:=bs) (by simpa using h)]
 | [],_::_,h=>by simp at h
 | _::_,[],h=>by simp at h
theorem q6z:∀(l:List Pc) (m:List Pair) (s:B) (out:Bool),(turned m l s out).2.length=l.length
 | [],m,s,out=>rfl
 | p::ps,m,s,out=>by simp[turned,q6z ps]
theorem q77:∀(l:List Pc) (ts:List B) (i:Nat),ts.length=l.length→i<l.length→q0w (l.take (i+1)) (ts.take (i+1))=q0w (l.take i) (ts.take i)++[⟨(l.getD i default).size,ts.getD i default⟩]
 | [],_,i,_,h=>by simp at h
 | _::_,[],i,h,_=>by simp at h
 | p::ps,b::bs,0,_,_=>by simp[q0w]
 | p::ps,b::bs,i+1,h1,h2=>by
   have:=q77 ps bs i (by simpa using h1) (by simpa using h2)
   simp[q0w,this]
end Go.Proofs.YtpppoklkijmeoaaGreatDoor.M
namespace Go.Proofs.YtpppoklkijmeoaaGreatDoor.VL
open Go Go.RowKit
section
variable {P:Program} {G:Glob}
end
end Go.Proofs.YtpppoklkijmeoaaGreatDoor.VL
namespace Go.Proofs.YtpppoklkijmeoaaGreatDoor.M
structure PutI (m:List Pair) (s:Strm) (inn:B) (out:Bool) (mm:List Pair) (ts:List B) (i d:Nat):Prop where
 hk:s.parts.length≤i
 hi:i≤(pieces inn).length
 hp:PortsOk mm
 ml:mm.length≤m.length+i
 ht:s.parts.length+ts.length=i
 hd:d≤inn.length
 f:fits ((pieces inn).drop i) (inn.drop d)
 o:out=false→mm=m
 e:turned m ((pieces inn).drop s.parts.length) (inn.drop (doneP s.parts)) out=((turned mm ((pieces inn).drop i) (inn.drop d) out).1,ts++(turned mm ((pieces inn).drop i) (inn.drop d) out).2)
theorem q5y:∀(l:List Pc) (ts:List B) (b:B),ts.length<l.length→q0w l (ts++[b])=q0w l ts++[⟨(l.getD ts.length default).size,b⟩]
 | [],ts,b,h=>by simp at h
 | p::ps,[],b,_=>by simp[q0w]
 | p::ps,t::ts,b,h=>by
   have:=q5y ps ts b (by simpa using h)
   simp[q0w,this]
theorem q2w:∀(l:List Pc) (ts:List B),ts.length≤l.length→(q0w l ts).length=ts.length
 | [],ts,h=>by simp at h;subst h;rfl
 | p::ps,[],_=>rfl
 | p::ps,t::ts,h=>by simp[q0w,q2w ps ts (by simpa using h)]
theorem PutI.step {m:List Pair} {s:Strm} {inn:B} {out:Bool} {mm:List Pair} {ts:List B} {i d:Nat} (h:PutI m s inn out mm ts i d) (hi:i<(pieces inn).length) :
 d+((pieces inn).getD i default).size≤inn.length ∧
 PutI m s inn out (turn mm ((pieces inn).getD i default) ((inn.drop d).take ((pieces inn).getD i default).size) out).1 (ts++[(turn mm ((pieces inn).getD i default) ((inn.drop d).take ((pieces inn).getD i default).size) out).2]) (i+1) (d+((pieces inn).getD i default).size):=by
 have hg:(pieces inn).getD i default=(pieces inn)[i]:=by simp[List.getD,hi]
 obtain⟨h1,h2,h3,h4,h5,h6,h7,h8,h9⟩:=h
 rw[hg]
 rw[List.drop_eq_getElem_cons hi] at h7 h9
 generalize (pieces inn)[i]=q at *
 obtain⟨f1,f2⟩:=h7
 rw[List.length_drop] at f1
 have htl:=qei mm q ((inn.drop d).take q.size) out
 refine⟨by omega,by omega,by omega,h3.turn q _ out,by omega,by simp;omega,by omega,by rwa [List.drop_drop] at f2,λhf=>by subst hf;exact h8 rfl, ?_⟩
 rw[h9]
 simp only[turned,List.drop_drop,List.append_assoc,List.singleton_append]
theorem PutI.init {m:List Pair} {s:Strm} {x:B} {out:Bool} (hm:PortsOk m) (hs:strmOk s=true):PutI m s (s.inn++x) out m [] s.parts.length (doneP s.parts):=by
 obtain⟨f1,f2,f3,f4⟩:=qao hs x
 exact⟨Nat.le_refl _,f1,hm,by omega,by simp,f3,f4,λ_=>rfl,by simp⟩
theorem PutI.done {m:List Pair} {s:Strm} {inn:B} {out:Bool} {mm:List Pair} {ts:List B} {d:Nat} (h:PutI m s inn out mm ts (pieces inn).length d) :
 turned m ((pieces inn).drop s.parts.length) (inn.drop (doneP s.parts)) out=(mm,ts):=by
 rw[h.e,List.drop_length];simp[turned]
theorem qev {m:List Pair} {s:Strm} {n:Int} {t:B} {out:Bool} {mm:List Pair} {ts:List B} {d:Nat} (hb:(q0a s.inn n t).2=true) (h:PutI m s (q0a s.inn n t).1 out mm ts (pieces (q0a s.inn n t).1).length d) :
 put m s n t out=(mm,⟨(q0a s.inn n t).1,s.parts++q0w ((pieces (q0a s.inn n t).1).drop s.parts.length) ts⟩,true):=by
 simp[put,hb,h.done]
def ixI (o:Option Nat):Int:=match o with
 | some k=>k
 | none => -1
theorem q2q (f:Flw) (fs:List Flw) (i o:E):q0y (f::fs) i o=if f.ins=i∧f.out=o then some 0 else(q0y fs i o).map (·+1):=by
 unfold q0y
 rw[List.findIdx?_cons]
 by_cases h1:f.ins=i<;>by_cases h2:f.out=o<;>simp[h1,h2]
theorem q9x (i o:E):q0y [] i o=none:=rfl
def q30 (i o:E) (f:Flw):Bool:=decide (f.ins=i)&&decide (f.out=o)
theorem q63:∀ {fs:List Flw} {i o:E},q0y fs i o=none↔fs.any (q30 i o)=false
 | [],i,o=>by simp[q9x]
 | f::fs,i,o=>by
   rw[q2q]
   have:=q63 (fs:=fs) (i:=i) (o:=o)
   by_cases h:f.ins=i∧f.out=o
   ·rw[if_pos h];simp[q30,h]
   ·rw[if_neg h]
    have hs:q30 i o f=false:=by rw[q30,←Bool.decide_and];simpa using h
    simp[hs,this]
theorem q4n:∀ {fs:List Flw} {i o:E} {k:Nat},q0y fs i o=some k→∃f,fs[k]?=some f∧f.ins=i∧f.out=o∧(fs.take k).any (q30 i o)=false
 | [],i,o,k,h=>by simp[q9x] at h
 | f::fs,i,o,k,h=>by
   rw[q2q] at h
   by_cases hc:f.ins=i∧f.out=o
   ·rw[if_pos hc] at h;cases h;exact⟨f,rfl,hc.1,hc.2,rfl⟩
   ·rw[if_neg hc] at h
    cases hx:q0y fs i o with
    | none=>rw[hx] at h;cases h
    | some j =>
      rw[hx] at h;cases h
      obtain⟨g,h1,h2,h3,h4⟩:=q4n hx
      have hs:q30 i o f=false:=by rw[q30,←Bool.decide_and];simpa using hc
      exact⟨g,by simpa using h1,h2,h3,by simp[hs,h4]⟩
theorem qc1:∀ {fs:List Flw} {i o:E} {k:Nat} {f:Flw},fs[k]?=some f→f.ins=i→f.out=o→(fs.take k).any (q30 i o)=false→q0y fs i o=some k
 | [],i,o,k,f,h,_,_,_=>by simp at h
 | g::fs,i,o,0,f,h,h1,h2,_=>by
   simp at h;subst h;rw[q2q,if_pos ⟨h1,h2⟩]
 | g::fs,i,o,k+1,f,h,h1,h2,h3=>by
   simp only[List.take_succ_cons,List.any_cons,Bool.or_eq_false_iff] at h3
   have hn:¬(g.ins=i∧g.out=o):=λhc=>by
    have:=h3.1;rw[q30,hc.1,hc.2] at this;simp at this
   rw[q2q,if_neg hn,qc1 (by simpa using h) h1 h2 h3.2];rfl
theorem qnv {o:Option Nat}:ixI o<0↔o=none:=by
 cases o with
 | none=>simp[ixI]
 | some k=>simp only[ixI,reduceCtorEq,iff_false];omega
theorem q7r {d:Door} {k:Nat} (h:k<d.flows.length):q5m d k=(d.map.any (λp=>decide (p.ins=d.flows[k].ins))&&d.flows[k].out.outside&&strmOk d.flows[k].up&&strmOk d.flows[k].down&&!(d.flows.take k).any (q30 d.flows[k].ins d.flows[k].out)):=by
 unfold q5m
 rw[zE h]
 rfl
theorem q9f {d:Door} {k:Nat} (h:k<d.flows.length) (hb:q5m d k=false):doorOk d=false:=by
 have:(List.range d.flows.length).all (q5m d)=false:=by
  rw[List.all_eq_false];exact⟨k,List.mem_range.2 h,by simp[hb]⟩
 simp[doorOk,this]
theorem q0c {d:Door}:doorOk d=true↔mapOk d.map=true∧d.flows.length≤4∧∀k,k<d.flows.length→q5m d k=true:=by
 simp[doorOk,List.all_eq_true,and_assoc]
theorem qd3 {m:List Pair} (hp:∀p∈m,p.port≠0) (e:E):portOf m e=0↔m.any (λp=>decide (p.ins=e))=false:=by
 unfold portOf
 cases hf:m.find? λp=>decide (p.ins=e) with
 | none =>
   rw[List.find?_eq_none] at hf
   simp only[List.any_eq_false,true_iff]
   exact hf
 | some p =>
   have h1:=List.find?_some hf
   have h2:=List.mem_of_find?_eq_some hf
   simp only[hp p h2,false_iff,Bool.not_eq_false,List.any_eq_true]
   exact⟨p,h2,h1⟩
def DB (d:Door):Prop:=d.map.length≤2000000∧d.flows.length≤2000000∧∀f∈d.flows,SB f.up∧SB f.down
theorem q8f {m:List Pair}:mapOk m=true↔m.length≤8∧∀(i:Nat) p,m[i]?=some p→p.port=10+(i:Int)∧p.ins.inside=true∧(m.take i).any (λq=>decide (q.ins=p.ins))=false:=by
 simp only[mapOk,Bool.and_eq_true,List.all_eq_true,List.mem_range,decide_eq_true_eq]
 constructor
 ·rintro⟨h1,h2⟩
  refine⟨h2,λi p hp=>?_⟩
  have hi:i<m.length:=(List.getElem?_eq_some_iff.1 hp).1
  have:=h1 i hi
  simp only[q3z,hp,Bool.and_eq_true,decide_eq_true_eq,Bool.not_eq_true'] at this
  exact⟨this.1.1,this.1.2,this.2⟩
 ·rintro⟨h1,h2⟩
  refine⟨λi hi=>?_,h1⟩
  obtain⟨a,b,c⟩:=h2 i m[i] (zE hi)
  simp only[q3z,zE hi,a,b,c]
  simp
theorem qh0 {m:List Pair} {e:E} (h:mapOk m=true) (he:e.inside=true):mapOk (mOut m e).1=true:=by
 unfold mOut
 split
 ·exact h
 ·rename_i hf
  split
  ·exact h
  ·rename_i hl
   rw[List.find?_eq_none] at hf
   obtain⟨h1,h2⟩:=q8f.1 h
   refine q8f.2 ⟨by simp;omega,λi p hp=>?_⟩
   by_cases hi:i<m.length
   ·rw[List.getElem?_append_left hi] at hp
    obtain⟨a,b,c⟩:=h2 i p hp
    refine⟨a,b, ?_⟩
    rw[List.take_append_of_le_length (by omega)]
    exact c
   ·have hil:=(List.getElem?_eq_some_iff.1 hp).1
    simp only[zA,zC,zN] at hil
    obtain rfl:i=m.length:=by omega
    rw[List.getElem?_append_right (Nat.le_refl _)] at hp
    simp only[Nat.sub_self,List.getElem?_cons_zero,zS] at hp
    subst hp
    refine⟨rfl,he, ?_⟩
    rw[List.take_left',List.any_eq_false]
    ·exact hf
    ·rfl
theorem qgn {m:List Pair} {e:E} (h:mapOk m=true) (hok:(mOut m e).2.2=true):(⟨9,(mOut m e).2.1⟩:E).door=true:=by
 rw[E.door_iff]
 unfold mOut at hok ⊢
 obtain⟨h1,h2⟩:=q8f.1 h
 split
 ·rename_i p hf
  have:=List.mem_of_find?_eq_some hf
  obtain⟨i,hi,rfl⟩:=List.mem_iff_getElem.1 this
  obtain⟨a,_,_⟩:=h2 i _ (zE hi)
  refine⟨rfl, ?_⟩
  simp only[a];omega
 ·split
  ·rename_i hf hl
   simp only[hf,if_pos hl] at hok
   cases hok
  ·refine⟨rfl, ?_⟩
   simp only;omega
theorem qd4 {m:List Pair} {n:Int} {e:E} (h:mapOk m=true) (hi:q0x m n=some e):e.inside=true:=by
 unfold q0x at hi
 obtain⟨p,hp,rfl⟩:=Option.map_eq_some_iff.1 hi
 have:=List.mem_of_find?_eq_some hp
 obtain⟨i,hil,rfl⟩:=List.mem_iff_getElem.1 this
 exact(q7n h hil).2
theorem qh7 (e:E):(name e).all okB=true:=by
 simp only[name,List.all_cons,List.all_append,qqw,List.all_nil];decide
theorem qga {e:E} (h:e.inside=true):e.any=true:=by simp[E.any,h]
theorem qjq {e:E} (h:e.door=true):e.any=true:=by simp[E.any,h]
theorem qa6 {m:List Pair} (h:mapOk m=true) (p:Pc) (s:B) (out:Bool):mapOk (turn m p s out).1=true:=by
 cases out
 ·exact h
 ·simp only[turn,cond_true,q0u]
  split
  ·rename_i hc
   rw[Bool.and_eq_true] at hc
   have:=qh0 h hc.2
   rcases hmo:mOut m p.e with⟨x,port,ok⟩
   rw[hmo] at this
   cases ok
   ·exact h
   ·exact this
  ·exact h
theorem qm2 {m:List Pair} (h:mapOk m=true) (p:Pc) {s:B} (out:Bool) (hs:1≤s.length∧s.length≤6) (hok:s.all okB=true) :
 (1≤(turn m p s out).2.length∧(turn m p s out).2.length≤6)∧(turn m p s out).2.all okB=true:=by
 cases out
 ·simp only[turn,cond_false,q2i]
  split
  ·split
   ·rename_i e he
    have:=q5a (qga (qd4 h he))
    refine⟨?_,qh7 e⟩
    have hl:=qah e
    split at this<;>omega
   ·exact⟨hs,hok⟩
  ·exact⟨hs,hok⟩
 ·simp only[turn,cond_true,q0u]
  split
  ·have hd:=qgn (e:=p.e) h
   rcases hmo:mOut m p.e with⟨x,port,ok⟩
   rw[hmo] at hd
   cases ok
   ·exact⟨hs,hok⟩
   ·have:=q5a (qjq (hd rfl))
    have hl:=qah ⟨9,port⟩
    refine⟨?_,qh7 _⟩
    simp only at this ⊢
    split at this<;>omega
  ·exact⟨hs,hok⟩
theorem q7z {s:B} {n:Nat} (h:s.all okB=true):(s.take n).all okB=true:=by
 rw[List.all_eq_true] at h ⊢;exact λb hb=>h b (List.mem_of_mem_take hb)
theorem q5d {s:B} {n:Nat} (h:s.all okB=true):(s.drop n).all okB=true:=by
 rw[List.all_eq_true] at h ⊢;exact λb hb=>h b (List.mem_of_mem_drop hb)
theorem q7c:∀ {l:List Pc} {m:List Pair} {s:B} {out:Bool},mapOk m=true→mapOk (turned m l s out).1=true
 | [],m,s,out,h=>h
 | p::ps,m,s,out,h=>by
   simp only[turned];exact q7c (qa6 h _ _ _)
theorem q9l:∀ {l:List Pc} {m:List Pair} {s:B} {out:Bool},mapOk m=true→fits l s→(∀q∈l,1≤q.size∧q.size≤6)→s.all okB=true →
 ∀b∈(turned m l s out).2,(1≤b.length∧b.length≤6)∧b.all okB=true
 | [],m,s,out,_,_,_,_=>by simp[turned]
 | p::ps,m,s,out,h,hf,hq,hs=>by
   obtain⟨f1,f2⟩:=hf
   have hp:=hq p (List.mem_cons_self ..)
   simp only[turned]
   intro b hb
   rcases List.mem_cons.1 hb with rfl|hb
   ·exact qm2 h p out (by rw[List.length_take];omega) (q7z hs)
   ·exact q9l (qa6 h _ _ _) f2 (λq hq'=>hq q (List.mem_cons_of_mem _ hq')) (q5d hs) b hb
theorem q9d:∀ {l:List Pc} {ts:List B},ts.length=l.length→(∀b∈ts,(1≤b.length∧b.length≤6)∧b.all okB=true)→q0r (q0w l ts) l=true
 | [],[],_,_=>rfl
 | p::ps,b::bs,hl,h=>by
   have hb:=h b (List.mem_cons_self ..)
   simp only[q0w,q0r,Bool.and_eq_true]
   refine⟨?_,q9d (by simpa using hl) λx hx=>h x (List.mem_cons_of_mem _ hx)⟩
   rw[q29]
   refine⟨rfl,hb.1, ?_⟩
   simp only[txOk,Bool.and_eq_true,decide_eq_true_eq]
   exact⟨hb.2,by omega⟩
 | [],_::_,hl,_=>by simp at hl
 | _::_,[],hl,_=>by simp at hl
theorem q8n:∀ {a:List Part} {c:List Pc} {b:List Part} {d:List Pc},q0r a c=true→q0r b d=true→q0r (a++b) (c++d)=true
 | [],[],b,d,_,h=>h
 | x::xs,y::ys,b,d,h1,h2=>by
   simp only[q0r,Bool.and_eq_true] at h1
   simp only[List.cons_append,q0r,Bool.and_eq_true]
   exact⟨h1.1,q8n h1.2 h2⟩
 | [],_::_,b,d,h,_=>by simp[q0r] at h
 | _::_,[],b,d,h,_=>by simp[q0r] at h
theorem qbp {c:B} {n:Int} {t:B} (hc:txOk c=true) (ht:txOk t=true) (hn:0≤n) (h:(q0a c n t).2=true):txOk (q0a c n t).1=true:=by
 simp only[txOk,Bool.and_eq_true,decide_eq_true_eq] at hc ht ⊢
 unfold q0a at h ⊢
 split
 ·exact hc
 ·rename_i h1
  simp only[Bool.or_eq_true,decide_eq_true_eq,not_or,Int.not_lt,gt_iff_lt] at h1
  split
  ·exact hc
  ·refine⟨?_, ?_⟩
   ·simp only[List.all_append,hc.1,q5d ht.1,Bool.and_self]
   ·simp only[zA,List.length_drop];omega
theorem q7h {m:List Pair} {s:Strm} {n:Int} {t:B} {out:Bool} (hm:mapOk m=true) (hs:strmOk s=true) (ht:txOk t=true) (hn:0≤n) :
 mapOk (put m s n t out).1=true∧strmOk (put m s n t out).2.1=true:=by
 unfold put
 split
 ·rename_i hb
  refine⟨q7c hm, ?_⟩
  have hs0:txOk s.inn=true∧q0r s.parts (pieces s.inn)=true:=by simpa[strmOk] using hs
  have htx:=qbp hs0.1 ht hn hb
  obtain⟨x,hx,_⟩:=q73 hb
  obtain⟨f1,f2,f3,f4⟩:=qao hs x
  rw[←hx] at f1 f2 f3 f4
  simp only[strmOk,htx,Bool.true_and]
  have hq:∀q∈(pieces (q0a s.inn n t).1).drop s.parts.length,1≤q.size∧q.size≤6:=λq hq=>q7a _ q (List.mem_of_mem_drop hq)
  have hpc:pieces (q0a s.inn n t).1=pieces s.inn++(pieces (q0a s.inn n t).1).drop s.parts.length:=by
   have h1:=q9c s.inn x
   rw[←hx] at h1
   rw[f2,h1,hx]
  conv=>lhs;arg 2;rw[hpc]
  refine q8n hs0.2 (q9d (q6z ..) ?_)
  refine q9l hm f4 hq (q5d ?_)
  simp only[txOk,Bool.and_eq_true] at htx
  exact htx.1
 ·exact⟨hm,hs⟩
theorem q4p {l:List Part} (i:Int):0≤q1l l i∧q1l l i≤((l.flatMap (·.text)).length:Int):=by
 induction l generalizing i with
 | nil=>simp[q1l]
 | cons p l ih =>
   have:=ih (i - p.size)
   simp only[q1l,List.flatMap_cons,zA]
   split<;>omega
theorem q4q {s:Strm} (h:StrB s):(sOut s).length≤240:=by
 have h1:=qgi (l:=s.parts) (λp hp=>(h.2.2 p hp).2.2.1) s.parts.length
 rw[List.take_length] at h1
 have:=h.2.1
 show(qld s.parts).length≤240
 omega
def toR (was is:Strm) (p:Pk):Int:=if was.inn.length<is.inn.length then((sOut is).length:Int) else q1l is.parts (min (p.at_+p.text.length) is.inn.length)
theorem qf1 (was is:Strm) (p:Pk):0≤toR was is p∧toR was is p≤(sOut is).length:=by
 unfold toR
 split
 ·omega
 ·exact q4p _
theorem qiy (m:List Pair) (s:Strm) (n:Int) (t:B) (out:Bool):s.inn.length≤(put m s n t out).2.1.inn.length:=by
 unfold put
 split
 ·rename_i h
  obtain⟨x,hx,_⟩:=q73 h
  simp only[hx,zA];omega
 ·exact Nat.le_refl _
def qa7 (was is:Strm) (p:Pk):Pk×Bool :=
 if q1l is.parts p.at_≥toR was is p then(.zero,false)
 else({ p with at_:=q1l is.parts p.at_,text:=((sOut is).take (toR was is p).toNat).drop (q1l is.parts p.at_).toNat },decide ((((sOut is).take (toR was is p).toNat).drop (q1l is.parts p.at_).toNat).length≤40))
theorem qat (was is:Strm) (p:Pk):q23 was is p=if(qa7 was is p).2 then some (qa7 was is p).1 else none:=by
 have h1:=q4p (l:=is.parts) p.at_
 have h2:=qf1 was is p
 have h3:q23 was is p=if q1l is.parts p.at_≥toR was is p then none else if toR was is p - q1l is.parts p.at_≤40 then some { p with at_:=q1l is.parts p.at_,text:=((sOut is).take (toR was is p).toNat).drop (q1l is.parts p.at_).toNat } else none:=rfl
 rw[h3]
 unfold qa7
 by_cases hc:q1l is.parts p.at_≥toR was is p
 ·rw[if_pos hc,if_pos hc];rfl
 ·rw[if_neg hc,if_neg hc]
  have hl:(((sOut is).take (toR was is p).toNat).drop (q1l is.parts p.at_).toNat).length=(toR was is p - q1l is.parts p.at_).toNat:=by
   rw[List.length_drop,List.length_take];omega
  simp only[hl]
  by_cases h4:toR was is p - q1l is.parts p.at_≤40
  ·rw[if_pos h4,if_pos (by simp;omega)]
  ·rw[if_neg h4,if_neg (by simp;omega)]
def q3t (was is:Strm) (p:Pk):Pk×Bool :=
 ({ p with at_:=q1l is.parts p.at_,text:=((sOut is).take (max (toR was is p) (q1l is.parts p.at_)).toNat).drop (q1l is.parts p.at_).toNat },
   q0j (((sOut is).take (max (toR was is p) (q1l is.parts p.at_)).toNat).drop (q1l is.parts p.at_).toNat).length 1 40)
theorem qb0 (was is:Strm) (p:Pk):q23 was is p=if(q3t was is p).2 then some (q3t was is p).1 else none:=by
 have h1:=q4p (l:=is.parts) p.at_
 have h2:=qf1 was is p
 have h3:q23 was is p=if q1l is.parts p.at_≥toR was is p then none else if toR was is p - q1l is.parts p.at_≤40 then some { p with at_:=q1l is.parts p.at_,text:=((sOut is).take (toR was is p).toNat).drop (q1l is.parts p.at_).toNat } else none:=rfl
 rw[h3]
 unfold q3t
 have hl:(((sOut is).take (max (toR was is p) (q1l is.parts p.at_)).toNat).drop (q1l is.parts p.at_).toNat).length=(max (toR was is p) (q1l is.parts p.at_) - q1l is.parts p.at_).toNat:=by
  rw[List.length_drop,List.length_take]
  have h5:q1l is.parts p.at_≤((sOut is).length:Int):=h1.2
  omega
 simp only[hl]
 by_cases hc:q1l is.parts p.at_≥toR was is p
 ·rw[if_pos hc,if_neg]
  rw[within_iff];omega
 ·rw[if_neg hc]
  have hmx:max (toR was is p) (q1l is.parts p.at_)=toR was is p:=by omega
  by_cases h4:toR was is p - q1l is.parts p.at_≤40
  ·rw[if_pos h4,if_pos (by rw[within_iff];omega),hmx]
  ·rw[if_neg h4,if_neg (by rw[within_iff];omega)]
def q20 (d:Door) (i o:E):Door×Nat×Bool:=match q6i d i o with
 | some (x,k)=>(x,k,true)
 | none=>(d,0,false)
theorem q8e {d:Door} {i o:E} {k:Nat} (h:q0y d.flows i o=some k):q20 d i o=(d,k,true):=by
 simp[q20,q6i,h]
theorem qb9 {d:Door} {i o:E} (h:q0y d.flows i o=none) (h2:(mOut d.map i).2.2=false):q20 d i o=(d,0,false):=by
 rcases hm:mOut d.map i with⟨m,n,ok⟩
 rw[hm] at h2
 simp only at h2
 subst h2
 simp[q20,q6i,h,hm]
theorem q6x {d:Door} {i o:E} (h:q0y d.flows i o=none) (h3:¬d.flows.length<4):q20 d i o=(d,0,false):=by
 rcases hm:mOut d.map i with⟨m,n,ok⟩
 cases ok<;>simp[q20,q6i,h,hm,h3]
theorem q6q {d:Door} {i o:E} (h:q0y d.flows i o=none) (h2:(mOut d.map i).2.2=true) (h3:d.flows.length<4):q20 d i o=(⟨(mOut d.map i).1,d.flows++[⟨i,o,.zero,.zero⟩]⟩,d.flows.length,true):=by
 rcases hm:mOut d.map i with⟨m,n,ok⟩
 rw[hm] at h2
 simp only at h2
 subst h2
 simp[q20,q6i,h,hm,h3]
structure OpenedP (d:Door) (i o:E) (x:Door) (k:Nat):Prop where
 map:mapOk x.map=true
 port:portOf x.map i≠0
 len:x.flows.length≤d.flows.length+1
 kl:k<x.flows.length
 flow:(x.flows.getD k default).ins=i∧(x.flows.getD k default).out=o
 up:strmOk (x.flows.getD k default).up=true
 down:strmOk (x.flows.getD k default).down=true
 ok:doorOk x=true
theorem q3k:strmOk .zero=true:=by decide
theorem q98 {m:List Pair} (hm:mapOk m=true) (e:E):portOf m e≠0↔m.any (λq=>decide (q.ins=e))=true :=
 qbr λp hp=>((q0b hm).1 p hp).1
theorem qe5 {m:List Pair} {e f:E} (h:m.any (λq=>decide (q.ins=f))=true):(mOut m e).1.any (λq=>decide (q.ins=f))=true:=by
 unfold mOut
 split
 ·exact h
 ·split
  ·exact h
  ·simp only[List.any_append,h,Bool.true_or]
theorem qai {m:List Pair} {e:E} (h:(mOut m e).2.2=true):(mOut m e).1.any (λq=>decide (q.ins=e))=true:=by
 unfold mOut at h ⊢
 split
 ·rename_i p hf
  rw[List.any_eq_true]
  have:=List.find?_some hf
  exact⟨p,List.mem_of_find?_eq_some hf,this⟩
 ·rename_i hf
  split
  ·rename_i hl;simp only[hf,if_pos hl] at h;cases h
  ·simp
theorem q2n {d:Door} (h:doorOk d=true) {k:Nat} {f:Flw} (hf:d.flows[k]?=some f):d.map.any (λp=>decide (p.ins=f.ins))=true∧f.out.outside=true∧strmOk f.up=true∧strmOk f.down=true∧(d.flows.take k).any (q30 f.ins f.out)=false:=by
 obtain⟨_,_,h3⟩:=q0c.1 h
 have hk:k<d.flows.length:=(List.getElem?_eq_some_iff.1 hf).1
 have h4:=h3 k hk
 rw[q7r hk] at h4
 obtain rfl:d.flows[k]=f:=by rw[zE hk] at hf;exact Option.some.inj hf
 simp only[Bool.and_eq_true,Bool.not_eq_true'] at h4
 exact⟨h4.1.1.1.1,h4.1.1.1.2,h4.1.1.2,h4.1.2,h4.2⟩
theorem qcc {m:List Pair} {fs:List Flw} (hm:mapOk m=true) (hl:fs.length≤4) (h:∀k f,fs[k]?=some f→m.any (λp=>decide (p.ins=f.ins))=true∧f.out.outside=true∧strmOk f.up=true∧strmOk f.down=true∧(fs.take k).any (q30 f.ins f.out)=false):doorOk ⟨m,fs⟩=true:=by
 refine q0c.2 ⟨hm,hl,λk hk=>?_⟩
 rw[q7r (d:=⟨m,fs⟩) hk]
 obtain⟨a,b,c,d,e⟩:=h k _ (zE hk)
 simp[a,b,c,d,e]
theorem q86 {d:Door} {i o:E} (hd:doorOk d=true) (hi:i.inside=true) (ho:o.outside=true) (hok:(q20 d i o).2.2=true):OpenedP d i o (q20 d i o).1 (q20 d i o).2.1:=by
 obtain⟨hm,hl,h3⟩:=q0c.1 hd
 cases hf:q0y d.flows i o with
 | some k =>
   rw[q8e hf]
   obtain⟨f,h1,rfl,rfl,h4⟩:=q4n hf
   obtain⟨a,b,c,e,g⟩:=q2n hd h1
   have hk:k<d.flows.length:=(List.getElem?_eq_some_iff.1 h1).1
   have hg:d.flows.getD k default=f:=by simp[List.getD,h1]
   exact⟨hm,(q98 hm _).2 a,by simp,hk,by rw[hg];exact⟨rfl,rfl⟩,by rw[hg];exact c,by rw[hg];exact e,hd⟩
 | none =>
   cases h2:(mOut d.map i).2.2 with
   | false=>rw[qb9 hf h2] at hok;cases hok
   | true =>
     by_cases h4:d.flows.length<4
     ·rw[q6q hf h2 h4]
      have hm':=qh0 hm hi
      have ha:=qai h2
      have hg:(d.flows++[Flw.mk i o .zero .zero]).getD d.flows.length default=⟨i,o,.zero,.zero⟩:=by simp[List.getD]
      refine⟨hm',(q98 hm' _).2 ha,by simp,by simp,by rw[hg];exact⟨rfl,rfl⟩,by rw[hg];exact q3k,by rw[hg];exact q3k, ?_⟩
      refine qcc hm' (by simp;omega) λk f hk=>?_
      by_cases hkl:k<d.flows.length
      ·rw[List.getElem?_append_left hkl] at hk
       obtain⟨a,b,c,e,g⟩:=q2n hd hk
       refine⟨qe5 a,b,c,e, ?_⟩
       rw[List.take_append_of_le_length (by omega)];exact g
      ·have:=(List.getElem?_eq_some_iff.1 hk).1
       simp only[zA,zC,zN] at this
       obtain rfl:k=d.flows.length:=by omega
       rw[List.getElem?_append_right (Nat.le_refl _)] at hk
       simp only[Nat.sub_self,List.getElem?_cons_zero,zS] at hk
       subst hk
       refine⟨ha,ho,q3k,q3k, ?_⟩
       rw[List.take_left' rfl]
       exact q63.1 hf
     ·exfalso
      rcases hmo:mOut d.map i with⟨m,n,ok⟩
      rw[hmo] at h2
      simp only at h2
      subst h2
      simp[q20,q6i,hf,hmo,h4] at hok
theorem qng {d:Door} {m:List Pair} {k:Nat} {f g:Flw} (hd:doorOk d=true) (hf:d.flows[k]?=some f) (hm:mapOk m=true) (hsub:∀e,d.map.any (λp=>decide (p.ins=e))=true→m.any (λp=>decide (p.ins=e))=true)
 (h1:g.ins=f.ins) (h2:g.out=f.out) (h3:strmOk g.up=true) (h4:strmOk g.down=true):doorOk ⟨m,d.flows.set k g⟩=true:=by
 obtain⟨_,hl,_⟩:=q0c.1 hd
 refine qcc hm (by simpa using hl) λj x hj=>?_
 have hsame:∀j i o,((d.flows.set k g).take j).any (q30 i o)=(d.flows.take j).any (q30 i o):=λj i o=>by
  have hkl:k<d.flows.length:=(List.getElem?_eq_some_iff.1 hf).1
  have e1:(d.flows.set k g).map (q30 i o)=d.flows.map (q30 i o):=by
   rw[List.map_set]
   have:q30 i o g=(d.flows.map (q30 i o))[k]'(by simpa using hkl):=by
    rw[List.getElem_map]
    have hfe:d.flows[k]=f:=by rw[zE hkl] at hf;exact Option.some.inj hf
    rw[hfe,q30,q30,h1,h2]
   rw[this,List.set_getElem_self]
  have e2:∀l:List Flw,(l.take j).any (q30 i o)=((l.map (q30 i o)).take j).any id:=λl=>by rw[←List.map_take,List.any_map];rfl
  rw[e2,e1,←e2]
 rw[hsame]
 by_cases hjk:j=k
 ·subst hjk
  have hkl:j<d.flows.length:=(List.getElem?_eq_some_iff.1 hf).1
  rw[List.getElem?_set_self hkl] at hj
  cases hj
  obtain⟨a,b,c,e,q⟩:=q2n hd hf
  rw[h1,h2]
  exact⟨hsub _ a,b,h3,h4,q⟩
 ·rw[List.getElem?_set_ne (by omega)] at hj
  obtain⟨a,b,c,e,q⟩:=q2n hd hj
  exact⟨hsub _ a,b,c,e,q⟩
def Flw.at (d:Door) (k:Nat):Flw:=d.flows.getD k default
def q93 (x:Door) (k:Nat) (p:Pk):Door×Option Pk :=
 if p.kind=2 then
  if p.at_>(sOut (Flw.at x k).down).length then(x,none) else(x,some ⟨2,⟨9,portOf x.map p.frm⟩,p.to,q38 (Flw.at x k).down.parts p.at_,[]⟩)
 else if(put x.map (Flw.at x k).up p.at_ p.text true).2.2=false then(x,none)
 else(⟨(put x.map (Flw.at x k).up p.at_ p.text true).1,x.flows.set k { Flw.at x k with up:=(put x.map (Flw.at x k).up p.at_ p.text true).2.1 }⟩,
  (q23 (Flw.at x k).up (put x.map (Flw.at x k).up p.at_ p.text true).2.1 p).map λq=>{ q with frm:=⟨9,portOf x.map p.frm⟩ })
theorem qav {d:Door} {p:Pk} (h:(q20 d p.frm p.to).2.2=false):q8y d p=(d,none):=by
 unfold q20 at h
 cases ho:q6i d p.frm p.to with
 | none=>simp[q8y,ho]
 | some x=>rw[ho] at h;cases h
theorem q7x {d:Door} {p:Pk} (h:(q20 d p.frm p.to).2.2=true) (hk:(q20 d p.frm p.to).2.1<(q20 d p.frm p.to).1.flows.length) :
 q8y d p=q93 (q20 d p.frm p.to).1 (q20 d p.frm p.to).2.1 p:=by
 unfold q20 at h hk ⊢
 cases ho:q6i d p.frm p.to with
 | none=>rw[ho] at h;cases h
 | some x =>
   obtain⟨x,k⟩:=x
   rw[ho] at hk
   simp only at hk ⊢
   have hf:x.flows[k]?=some (Flw.at x k):=by simp[Flw.at,List.getD,hk]
   simp only[q8y,ho,hf,q93]
   split
   ·rfl
   ·rcases hp:put x.map (Flw.at x k).up p.at_ p.text true with⟨m,s,ok⟩
    cases ok<;>simp
def inK (x:Door) (k:Nat) (i:E) (p:Pk):Door×Option Pk :=
 if p.kind=2 then
  if p.at_>(sOut (Flw.at x k).up).length then(x,none) else(x,some ⟨2,p.frm,i,q38 (Flw.at x k).up.parts p.at_,[]⟩)
 else if(put x.map (Flw.at x k).down p.at_ p.text false).2.2=false then(x,none)
 else(⟨x.map,x.flows.set k { Flw.at x k with down:=(put x.map (Flw.at x k).down p.at_ p.text false).2.1 }⟩,
  (q23 (Flw.at x k).down (put x.map (Flw.at x k).down p.at_ p.text false).2.1 p).map λq=>{ q with to:=i })
theorem qaw {d:Door} {p:Pk} (h:q0x d.map p.to.p=none):dIn d p=(d,none):=by simp[dIn,h]
theorem qal {d:Door} {p:Pk} {i:E} (h:q0x d.map p.to.p=some i) (h2:q0y d.flows i p.frm=none):dIn d p=(d,none):=by simp[dIn,h,h2]
theorem qb8 {d:Door} {p:Pk} {i:E} {k:Nat} (h:q0x d.map p.to.p=some i) (h2:q0y d.flows i p.frm=some k):k<d.flows.length∧dIn d p=inK d k i p:=by
 obtain⟨f,h3,_⟩:=q4n h2
 have hk:k<d.flows.length:=(List.getElem?_eq_some_iff.1 h3).1
 refine⟨hk, ?_⟩
 have hf:d.flows[k]?=some (Flw.at d k):=by simp[Flw.at,List.getD,hk]
 simp only[dIn,h,h2,hf,inK]
 split
 ·rfl
 ·rcases hp:put d.map (Flw.at d k).down p.at_ p.text false with⟨m,s,ok⟩
  cases ok<;>simp
structure PkP (p:Pk):Prop where
 at_:0≤p.at_∧p.at_≤999
 len:p.text.length≤40
 tx:p.kind=2∨txOk p.text=true
 ack:p.kind=2→p.text=[]
 kd:p.kind=1∨p.kind=2
theorem qn5 {p:Pk} (h:qbm p=true):PkP p:=by
 simp only[qbm,Bool.and_eq_true,Bool.or_eq_true,decide_eq_true_eq,within_iff] at h
 obtain⟨⟨_,h1⟩,h2|h2⟩:=h
 ·exact⟨⟨h1.1,by omega⟩,q7t h2.1.2,.inr h2.1.2,λh=>(by rw[h2.1.1] at h;cases h),.inl h2.1.1⟩
 ·have:p.text=[]:=by simpa using h2.2
  exact⟨⟨h1.1,by omega⟩,by simp[this],.inl h2.1,λ_=>this,.inr h2.1⟩
theorem qpv {m:List Pair} {s:Strm} {n:Int} {t:B} {out:Bool}:∀e,m.any (λp=>decide (p.ins=e))=true→(put m s n t out).1.any (λp=>decide (p.ins=e))=true:=by
 intro e h
 unfold put
 split
 ·have key:∀(l:List Pc) (m:List Pair) (s:B),m.any (λp=>decide (p.ins=e))=true→(turned m l s out).1.any (λp=>decide (p.ins=e))=true:=by
   intro l
   induction l with
   | nil=>intro m s h;exact h
   | cons q l ih =>
     intro m s h
     simp only[turned]
     refine ih _ _ ?_
     cases out
     ·exact h
     ·simp only[turn,cond_true,q0u]
      split
      ·have:=qe5 (e:=q.e) h
       rcases hmo:mOut m q.e with⟨x,port,ok⟩
       rw[hmo] at this
       cases ok
       ·exact h
       ·exact this
      ·exact h
  exact key _ _ _ h
 ·exact h
theorem qon {x:Door} {k:Nat} {p:Pk} (hd:doorOk x=true) (hk:k<x.flows.length) (hp:PkP p):doorOk (q93 x k p).1=true∧(q93 x k p).1.flows.length=x.flows.length:=by
 have hf:x.flows[k]?=some (Flw.at x k):=by simp[Flw.at,List.getD,hk]
 obtain⟨_,_,hu,hdn,_⟩:=q2n hd hf
 unfold q93
 split
 ·split<;>exact⟨hd,rfl⟩
 ·rename_i hkd
  split
  ·exact⟨hd,rfl⟩
  ·obtain⟨p1,p2⟩:=q7h (out:=true) (q0c.1 hd).1 hu (hp.tx.resolve_left hkd) hp.at_.1
   exact⟨qng hd hf p1 qpv rfl rfl p2 hdn,by simp⟩
theorem que {x:Door} {k:Nat} {i:E} {p:Pk} (hd:doorOk x=true) (hk:k<x.flows.length) (hp:PkP p):doorOk (inK x k i p).1=true∧(inK x k i p).1.flows.length=x.flows.length∧(inK x k i p).1.map=x.map:=by
 have hf:x.flows[k]?=some (Flw.at x k):=by simp[Flw.at,List.getD,hk]
 obtain⟨_,_,hu,hdn,_⟩:=q2n hd hf
 unfold inK
 split
 ·split<;>exact⟨hd,rfl,rfl⟩
 ·rename_i hkd
  split
  ·exact⟨hd,rfl,rfl⟩
  ·obtain⟨p1,p2⟩:=q7h (out:=false) (q0c.1 hd).1 hdn (hp.tx.resolve_left hkd) hp.at_.1
   exact⟨qng hd hf (q0c.1 hd).1 (λe h=>h) rfl rfl hu p2,by simp,rfl⟩
theorem qlc {d:Door} {i o:E} (h:(q20 d i o).2.2=false):(q20 d i o).1=d:=by
 unfold q20 at h ⊢
 cases ho:q6i d i o with
 | none=>rfl
 | some x=>rw[ho] at h;cases h
theorem qpa {d:Door} {p:Pk} (hd:doorOk d=true) (hp:PkP p) (h1:p.outward=true):doorOk (q8y d p).1=true∧(q8y d p).1.flows.length≤d.flows.length+1:=by
 simp only[Pk.outward,Bool.and_eq_true] at h1
 cases ho:(q20 d p.frm p.to).2.2 with
 | false=>rw[qav ho];exact⟨hd,by simp⟩
 | true =>
   have hx:=q86 hd h1.1 h1.2 ho
   rw[q7x ho hx.kl]
   have:=qon hx.ok hx.kl hp
   exact⟨this.1,by rw[this.2];exact hx.len⟩
theorem qzm {d:Door} {p:Pk} (hd:doorOk d=true) (hp:PkP p):doorOk (dIn d p).1=true∧(dIn d p).1.flows.length=d.flows.length:=by
 cases h1:q0x d.map p.to.p with
 | none=>rw[qaw h1];exact⟨hd,rfl⟩
 | some i =>
   cases h2:q0y d.flows i p.frm with
   | none=>rw[qal h1 h2];exact⟨hd,rfl⟩
   | some k =>
     obtain⟨hk,he⟩:=qb8 h1 h2
     rw[he]
     have:=que (i:=i) hd hk hp
     exact⟨this.1,this.2.1⟩
theorem qjx {d:Door} {p:Pk} (hd:doorOk d=true) (hp:PkP p):doorOk (q1o d p).1=true∧(q1o d p).1.flows.length≤d.flows.length+1:=by
 unfold q1o
 split
 ·rename_i h;exact qpa hd hp h
 ·split
  ·have:=qzm hd hp;exact⟨this.1,by omega⟩
  ·exact⟨hd,by simp⟩
theorem qhz (was is:Strm) (p:Pk) (i:E):q23 was is { p with to:=i }=(q23 was is p).map λq=>{ q with to:=i }:=by
 have h3:∀p:Pk,q23 was is p=if q1l is.parts p.at_≥toR was is p then none else if toR was is p - q1l is.parts p.at_≤40 then some { p with at_:=q1l is.parts p.at_,text:=((sOut is).take (toR was is p).toNat).drop (q1l is.parts p.at_).toNat } else none:=λp=>rfl
 rw[h3,h3]
 have:toR was is { p with to:=i }=toR was is p:=rfl
 rw[this]
 simp only
 split
 ·rfl
 ·split<;>rfl
theorem qa1 (was is:Strm) (p:Pk) (i:E):q23 was is { p with frm:=i }=(q23 was is p).map λq=>{ q with frm:=i }:=by
 have h3:∀p:Pk,q23 was is p=if q1l is.parts p.at_≥toR was is p then none else if toR was is p - q1l is.parts p.at_≤40 then some { p with at_:=q1l is.parts p.at_,text:=((sOut is).take (toR was is p).toNat).drop (q1l is.parts p.at_).toNat } else none:=λp=>rfl
 rw[h3,h3]
 have:toR was is { p with frm:=i }=toR was is p:=rfl
 rw[this]
 simp only
 split
 ·rfl
 ·split<;>rfl
theorem qkf (m:List Pair) (s:Strm) (n:Int) (t:B):(put m s n t false).1=m:=by
 have key:∀(l:List Pc) (m:List Pair) (s:B),(turned m l s false).1=m:=by
  intro l
  induction l with
  | nil=>intro m s;rfl
  | cons q l ih=>intro m s;simp only[turned];rw[ih];rfl
 unfold put
 split
 ·exact key _ _ _
 ·rfl
theorem q1x {c:Conv}:convOk c=true↔(c.ins.inside=true∧c.out.outside=true∧q5n c.up=true∧q5n c.down=true∧qt4 c.up=true)∧(0≤c.upAck∧c.upAck≤c.up.length)∧(0≤c.downAck∧c.downAck≤c.down.length)∧txOk c.upGot=true∧txOk c.downGot=true:=by
 unfold convOk q56
 split
 ·rename_i h
  simp only[Bool.and_eq_true] at h
  simp[within_iff,h,and_assoc]
 ·rename_i h
  simp only[Bool.and_eq_true,not_and] at h
  simp only[Option.isSome_none,Bool.false_and,Bool.false_eq_true,false_iff]
  rintro⟨⟨a,b,c,d,e⟩,_⟩
  exact h ⟨⟨⟨a,b⟩,c⟩,d⟩ e
theorem q59 {t:B} (h:q5n t=true):t.length≤24∧txOk t=true∧held t=0:=by
 simpa[q5n,and_assoc] using h
structure CvB (c:Conv):Prop where
 up:c.up.length≤24
 down:c.down.length≤24
 upGot:c.upGot.length≤40
 downGot:c.downGot.length≤40
 upAck:0≤c.upAck∧c.upAck≤24
 downAck:0≤c.downAck∧c.downAck≤24
theorem q26 {c:Conv} (h:convOk c=true):CvB c:=by
 obtain⟨⟨_,_,h3,h4,_⟩,h6,h7,h8,h9⟩:=q1x.1 h
 have:=(q59 h3).1
 have:=(q59 h4).1
 exact⟨by omega,by omega,q7t h8,q7t h9,by omega,by omega⟩
theorem q5c {e:E} (h:e.outside=true):e.inside=false:=by
 cases hi:e.inside with
 | false=>rfl
 | true=>have:=E.inside_iff.1 hi;have:=E.outside_iff.1 h;omega
structure NetP (cs:List Conv) (p:Pk):Prop where
 pk:PkP p
 c:p.frm.inside=true→∃c∈cs,p.frm=c.ins∧p.to=c.out
theorem flow_one {cs:List Conv} {fs:List Flw} (hl:cs.length≤2) (h:∀f∈fs,∃c∈cs,f.ins=c.ins∧f.out=c.out)
 (hd:∀(j k:Nat) f g,j<k→fs[j]?=some f→fs[k]?=some g→¬(f.ins=g.ins∧f.out=g.out)):fs.length≤2:=by
 match fs,cs,hl with
 | [],_,_=>simp
 | [_],_,_=>simp
 | [_,_],_,_=>simp
 | a::b::c::r,cs,hl =>
   exfalso
   have h1:=hd 0 1 a b (by omega) rfl rfl
   have h2:=hd 0 2 a c (by omega) rfl rfl
   have h3:=hd 1 2 b c (by omega) rfl rfl
   obtain⟨x,hx,x1,x2⟩:=h a (by simp)
   obtain⟨y,hy,y1,y2⟩:=h b (by simp)
   obtain⟨z,hz,z1,z2⟩:=h c (by simp)
   match cs,hl with
   | [],_=>cases hx
   | [u],_ =>
     simp only[List.mem_singleton] at hx hy hz
     subst hx;subst hy;subst hz
     exact h1 ⟨x1.trans y1.symm,x2.trans y2.symm⟩
   | [u,v],_ =>
     simp only[List.mem_cons,List.not_mem_nil,or_false] at hx hy hz
     rcases hx with rfl|rfl<;>rcases hy with rfl|rfl<;>rcases hz with rfl|rfl<;>first
      | exact h1 ⟨x1.trans y1.symm,x2.trans y2.symm⟩
      | exact h2 ⟨x1.trans z1.symm,x2.trans z2.symm⟩
      | exact h3 ⟨y1.trans z1.symm,y2.trans z2.symm⟩
theorem qqo {s:Strm} (h:StrB s):(sOut s).all okB=true:=by
 simp only[sOut,List.all_flatMap,List.all_eq_true]
 intro p hp
 have:=(h.2.2 p hp).2.2.2
 simp only[txOk,Bool.and_eq_true] at this
 exact List.all_eq_true.1 this.1
theorem qeb {was is:Strm} {p q:Pk} (hs:StrB is) (hp:PkP p) (hk:p.kind≠2) (h:q23 was is p=some q):PkP q∧q.frm=p.frm∧q.to=p.to∧q.kind=p.kind:=by
 have h1:=q4p (l:=is.parts) p.at_
 have h2:=qf1 was is p
 have h3:=q4q hs
 have e:q23 was is p=if q1l is.parts p.at_≥toR was is p then none else if toR was is p - q1l is.parts p.at_≤40 then some { p with at_:=q1l is.parts p.at_,text:=((sOut is).take (toR was is p).toNat).drop (q1l is.parts p.at_).toNat } else none:=rfl
 rw[e] at h
 have h1':q1l is.parts p.at_≤((sOut is).length:Int):=h1.2
 have h1'':=h1.1
 generalize q1l is.parts p.at_=a at *
 generalize toR was is p=b at *
 split at h
 ·cases h
 ·split at h
  ·cases h
   have hl:(((sOut is).take b.toNat).drop a.toNat).length≤40:=by simp only[List.length_drop,List.length_take];omega
   refine⟨⟨⟨h1'',by simp only;omega⟩,hl,.inr ?_,λh=>absurd h hk,hp.kd⟩,rfl,rfl,rfl⟩
   simp only[txOk,Bool.and_eq_true,decide_eq_true_eq]
   exact⟨q5d (q7z (qqo hs)),hl⟩
  ·cases h
theorem qik {l:List Part} (h:∀p∈l,(1≤p.size∧p.size≤6)) (hl:l.length≤40) (n:Int):0≤q38 l n∧q38 l n≤240:=by
 have:=qh5 (l:=l) (λp hp=>by have:=h p hp;omega) n
 omega
theorem qfx {d:Door} {p:Pk}:∀f∈(q8y d p).1.flows,(f.ins=p.frm∧f.out=p.to)∨∃g∈d.flows,f.ins=g.ins∧f.out=g.out:=by
 have hin:∀f∈d.flows,(f.ins=p.frm∧f.out=p.to)∨∃g∈d.flows,f.ins=g.ins∧f.out=g.out:=λf hf=>.inr ⟨f,hf,rfl,rfl⟩
 have hop:∀x k,q6i d p.frm p.to=some (x,k)→∀f∈x.flows,(f.ins=p.frm∧f.out=p.to)∨∃g∈d.flows,f.ins=g.ins∧f.out=g.out:=by
  intro x k h
  unfold q6i at h
  split at h
  ·cases h;exact hin
  ·split at h
   ·split at h
    ·cases h
     intro f hf
     rcases List.mem_append.1 hf with hf|hf
     ·exact hin f hf
     ·simp only[List.mem_singleton] at hf;subst hf;exact .inl ⟨rfl,rfl⟩
    ·cases h
   ·cases h
 unfold q8y
 split
 ·exact hin
 ·rename_i x k ho
  have hx:=hop x k ho
  split
  ·exact hx
  ·rename_i f hf
   split
   ·split<;>exact hx
   ·split
    ·exact hx
    ·intro g hg
     simp only at hg
     rcases List.mem_or_eq_of_mem_set hg with hg|rfl
     ·exact hx g hg
     ·exact hx f (List.mem_of_getElem? hf)
theorem qie {d:Door} {p:Pk}:∀f∈(dIn d p).1.flows,∃g∈d.flows,f.ins=g.ins∧f.out=g.out:=by
 have hin:∀f∈d.flows,∃g∈d.flows,f.ins=g.ins∧f.out=g.out:=λf hf=>⟨f,hf,rfl,rfl⟩
 unfold dIn
 split
 ·exact hin
 ·split
  ·exact hin
  ·split
   ·exact hin
   ·rename_i f hf
    split
    ·split<;>exact hin
    ·split
     ·exact hin
     ·intro g hg
      simp only at hg
      rcases List.mem_or_eq_of_mem_set hg with hg|rfl
      ·exact hin g hg
      ·exact⟨f,List.mem_of_getElem? hf,rfl,rfl⟩
theorem qw9 {x:Door} {k:Nat} {p q:Pk} (hd:doorOk x=true) (hk:k<x.flows.length) (hp:PkP p) (h:(q93 x k p).2=some q):PkP q∧q.frm.inside=false∧q.frm=⟨9,portOf x.map p.frm⟩∧q.to=p.to∧q.kind=p.kind:=by
 have hf:x.flows[k]?=some (Flw.at x k):=by simp[Flw.at,List.getD,hk]
 obtain⟨_,_,hu,hdn,_⟩:=q2n hd hf
 have hn:∀n,(⟨9,n⟩:E).inside=false:=λn=>by simp[E.inside,q0j]
 unfold q93 at h
 split at h
 ·rename_i hk2
  split at h
  ·cases h
  ·cases h
   have hb:=q0t hdn
   have:=qik (λp hp=>(hb.2.2 p hp).1) hb.2.1 p.at_
   exact⟨⟨⟨this.1,by simp only;omega⟩,by simp,.inl rfl,λ_=>rfl,.inr rfl⟩,hn _,rfl,rfl,hk2.symm⟩
 ·rename_i hkd
  split at h
  ·cases h
  ·obtain⟨p1,p2⟩:=q7h (out:=true) (q0c.1 hd).1 hu (hp.tx.resolve_left hkd) hp.at_.1
   simp only[zM] at h
   obtain⟨q',hq,rfl⟩:=h
   obtain⟨h1,h2,h3,h4⟩:=qeb (q0t p2) hp hkd hq
   exact⟨⟨h1.at_,h1.len,h1.tx,h1.ack,h1.kd⟩,hn _,rfl,h3,h4⟩
theorem inK_P {x:Door} {k:Nat} {i:E} {p q:Pk} (hd:doorOk x=true) (hk:k<x.flows.length) (hp:PkP p) (h:(inK x k i p).2=some q):PkP q∧q.frm=p.frm∧q.to=i∧q.kind=p.kind:=by
 have hf:x.flows[k]?=some (Flw.at x k):=by simp[Flw.at,List.getD,hk]
 obtain⟨_,_,hu,hdn,_⟩:=q2n hd hf
 unfold inK at h
 split at h
 ·rename_i hk2
  split at h
  ·cases h
  ·cases h
   have hb:=q0t hu
   have:=qik (λp hp=>(hb.2.2 p hp).1) hb.2.1 p.at_
   exact⟨⟨⟨this.1,by simp only;omega⟩,by simp,.inl rfl,λ_=>rfl,.inr rfl⟩,rfl,rfl,hk2.symm⟩
 ·rename_i hkd
  split at h
  ·cases h
  ·obtain⟨p1,p2⟩:=q7h (out:=false) (q0c.1 hd).1 hdn (hp.tx.resolve_left hkd) hp.at_.1
   simp only[zM] at h
   obtain⟨q',hq,rfl⟩:=h
   obtain⟨h1,h2,h3,h4⟩:=qeb (q0t p2) hp hkd hq
   exact⟨⟨h1.at_,h1.len,h1.tx,h1.ack,h1.kd⟩,h2,rfl,h4⟩
theorem qes {c:B} {n:Int} {t:B} (hc:txOk c=true) (ht:txOk t=true) (hn:0≤n):txOk (q0a c n t).1=true:=by
 cases h:(q0a c n t).2 with
 | true=>exact qbp hc ht hn h
 | false =>
   have:(q0a c n t).1=c:=by
    revert h;unfold q0a;split
    ·intro;rfl
    ·split<;>(intro h;cases h)
   rw[this];exact hc
theorem qby (c:Conv) (inward:Bool) (p:Pk):(q4x c inward p).1.ins=c.ins∧(q4x c inward p).1.out=c.out∧(q4x c inward p).1.up=c.up∧(q4x c inward p).1.down=c.down:=by
 unfold q4x
 cases inward<;>simp only[cond_true,cond_false]<;>split<;>(try split)<;>exact⟨rfl,rfl,rfl,rfl⟩
theorem qj2 {c:Conv} {inward:Bool} {p:Pk} (hc:convOk c=true) (hp:PkP p):convOk (q4x c inward p).1=true:=by
 obtain⟨h1,h2,h3,h4,h5⟩:=q1x.1 hc
 have hp1:=hp.at_
 unfold q4x
 cases inward<;>simp only[cond_true,cond_false]<;>split
 ·split
  ·exact q1x.2 ⟨h1,h2,by simp only;omega,h4,h5⟩
  ·rename_i hk
   exact q1x.2 ⟨h1,h2,h3,qes h4 (hp.tx.resolve_left hk) hp1.1,h5⟩
 ·exact hc
 ·split
  ·exact q1x.2 ⟨h1,by simp only;omega,h3,h4,h5⟩
  ·rename_i hk
   exact q1x.2 ⟨h1,h2,h3,h4,qes h5 (hp.tx.resolve_left hk) hp1.1⟩
 ·exact hc
theorem qkh {c:Conv} {inward:Bool} {p q:Pk} (hc:convOk c=true) (hp:PkP p) (h:(q4x c inward p).2=some q):PkP q∧q.kind=2∧q.frm=p.to∧q.to=p.frm∧(bif inward then p.frm=c.out∧p.to=c.ins else p.to=c.out∧p.frm.door=true):=by
 have hh:=qj2 (inward:=inward) hc hp
 revert hh h
 unfold q4x
 cases inward<;>simp only[cond_true,cond_false]<;>split
 ·rename_i hb
  simp only[Bool.and_eq_true,decide_eq_true_eq] at hb
  split
  ·intro h;cases h
  ·intro h hh;cases h
   have:=(q26 hh).upGot
   exact⟨⟨by simp only at this ⊢;omega,by simp,.inl rfl,λ_=>rfl,.inr rfl⟩,rfl,rfl,rfl,hb⟩
 ·intro h;cases h
 ·rename_i hb
  simp only[Bool.and_eq_true,decide_eq_true_eq] at hb
  split
  ·intro h;cases h
  ·intro h hh;cases h
   have:=(q26 hh).downGot
   exact⟨⟨by simp only at this ⊢;omega,by simp,.inl rfl,λ_=>rfl,.inr rfl⟩,rfl,rfl,rfl,hb⟩
 ·intro h;cases h
theorem qh3 {w:World} {p:Pk} {i:Nat} {b:Bool} (h:q78 w p=some (i,b)):∃c,w.convs[i]?=some c∧b=(decide (p.to=c.ins)&&decide (p.frm=c.out)):=by
 unfold q78 at h
 split at h
 ·split at h
  ·rename_i c hc
   cases h
   exact⟨c,hc,rfl⟩
  ·cases h
 ·cases h
theorem say_P {c:Conv} {up:Bool} {port n m:Int} {p:Pk} (hc:convOk c=true) (h:say c up port n m=some p) :
 PkP p∧p.kind=1∧(bif up then p.frm=c.ins∧p.to=c.out else p.frm=c.out∧p.to=⟨9,port⟩∧(10≤port∧port≤17))∧p.at_=n∧p.text=((bif up then c.up else c.down).drop n.toNat).take (min m ((bif up then c.up else c.down).length - n)).toNat∧(0≤n∧n<(bif up then c.up else c.down).length)∧1≤m:=by
 obtain⟨⟨_,_,h3,h4,_⟩,_⟩:=q1x.1 hc
 unfold say at h
 cases up<;>simp only[Bool.false_eq_true,if_false,if_true,Bool.false_or,Bool.true_or,Bool.and_true] at h<;>split at h
 ·rename_i hg
  cases h
  simp only[Bool.and_eq_true,within_iff,decide_eq_true_eq,E.door_iff] at hg
  obtain⟨a,b,_⟩:=q59 h4
  have b':=b
  simp only[txOk,Bool.and_eq_true,decide_eq_true_eq] at b'
  have hl:((c.down.drop n.toNat).take (min m (c.down.length - n)).toNat).length≤40:=by simp only[List.length_take,List.length_drop];omega
  refine⟨⟨by simp only;omega,hl,.inr ?_,(λh=>by cases h),.inl rfl⟩,rfl,⟨rfl,rfl,hg.2.2⟩,rfl,rfl,by simp only[cond_false];omega,hg.1.2⟩
  simp only[txOk,Bool.and_eq_true,decide_eq_true_eq]
  exact⟨q7z (q5d b'.1),hl⟩
 ·cases h
 ·rename_i hg
  cases h
  simp only[Bool.and_eq_true,within_iff,decide_eq_true_eq] at hg
  obtain⟨a,b,_⟩:=q59 h3
  have b':=b
  simp only[txOk,Bool.and_eq_true,decide_eq_true_eq] at b'
  have hl:((c.up.drop n.toNat).take (min m (c.up.length - n)).toNat).length≤40:=by simp only[List.length_take,List.length_drop];omega
  refine⟨⟨by simp only;omega,hl,.inr ?_,(λh=>by cases h),.inl rfl⟩,rfl,⟨rfl,rfl⟩,rfl,rfl,by simp only[cond_true];omega,hg.2⟩
  simp only[txOk,Bool.and_eq_true,decide_eq_true_eq]
  exact⟨q7z (q5d b'.1),hl⟩
 ·cases h
theorem q65 {cs:List Conv} {c:Conv} {up:Bool} {port n m:Int} {p:Pk} (hm:c∈cs) (hc:convOk c=true) (h:say c up port n m=some p):NetP cs p:=by
 obtain⟨h1,_,h2,_⟩:=say_P hc h
 refine⟨h1,λhin=>?_⟩
 cases up with
 | true=>exact⟨c,hm,h2.1,h2.2⟩
 | false=>simp only[cond_false] at h2;rw[h2.1,q5c (q1x.1 hc).1.2.1] at hin;cases hin
theorem qbq {w:World} {p:Pk} (h:q28 w p=true):NetP w.convs p:=by
 simp only[q28,Bool.and_eq_true,Pk.inward] at h
 exact⟨qn5 h.1.1,λhin=>by rw[q5c h.1.2.1] at hin;cases hin⟩
theorem q2y {cs:List Conv}:q1e cs=true↔cs.length≤2∧∀i,i<cs.length→q89 cs i=true:=by
 simp[q1e,and_comm]
theorem qbc {cs:List Conv} {i:Nat} (h:i<cs.length):q89 cs i=(convOk cs[i]&&!(cs.take i).any λo=>decide (o.ins=cs[i].ins)||decide (o.out=cs[i].out)):=by
 simp[q89,h]
theorem qcl {cs:List Conv} (h:q1e cs=true):∀c∈cs,convOk c=true:=λc hc=>by
 obtain⟨i,hi⟩:=List.mem_iff_getElem?.1 hc
 obtain⟨hl,rfl⟩:=List.getElem?_eq_some_iff.1 hi
 have:=(q2y.1 h).2 i hl
 rw[qbc hl,Bool.and_eq_true] at this
 exact this.1
def q5r (w:World) (p:Pk) (c:Conv):Bool:=(decide (p.to=c.ins)&&decide (p.frm=c.out))||(decide (p.to=c.out)&&p.frm.door&&decide (p.frm.p=portOf w.door.map c.ins))
def qam (w:World) (p:Pk):World×Option Pk:=match q78 w p with
 | none=>(w,none)
 | some (i,inward)=>match w.convs[i]? with
   | none=>(w,none)
   | some c=>({ w with convs:=w.convs.set i (q4x c inward p).1 },(q4x c inward p).2)
theorem q9o {w:World} {p:Pk} (h:(p.to.door||p.frm.inside)=false):q2g w p=qam w p:=by
 unfold q2g
 rw[if_neg (by simp[h])]
 rfl
theorem q9w {w:World} {p:Pk} (h:(p.to.door||p.frm.inside)=true):q2g w p=({ w with door:=(q1o w.door p).1 },(q1o w.door p).2):=by
 unfold q2g
 rw[if_pos h]
theorem qe9 {w:World} {p:Pk} (h:w.convs.any (q5r w p)=false):qam w p=(w,none):=by
 have:w.convs.findIdx? (q5r w p)=none:=List.findIdx?_eq_none_iff.2 λx hx=>by simpa using List.any_eq_false.1 h x hx
 have e:q78 w p=none:=by
  unfold q78
  rw[show(w.convs.findIdx? λc=>(decide (p.to=c.ins)&&decide (p.frm=c.out))||(decide (p.to=c.out)&&p.frm.door&&decide (p.frm.p=portOf w.door.map c.ins)))=none from this]
 unfold qam
 rw[e]
theorem qdr {w:World} {p:Pk} {k:Nat} (hk:k<w.convs.length) (h:(w.convs.take k).any (q5r w p)=false) (hm:q5r w p w.convs[k]=true) :
 qam w p=({ w with convs:=w.convs.set k (q4x w.convs[k] (decide (p.to=w.convs[k].ins)&&decide (p.frm=w.convs[k].out)) p).1 },(q4x w.convs[k] (decide (p.to=w.convs[k].ins)&&decide (p.frm=w.convs[k].out)) p).2):=by
 have:w.convs.findIdx? (q5r w p)=some k:=by
  refine List.findIdx?_eq_some_iff_getElem.2 ⟨hk,hm,λj hj=>?_⟩
  have:=List.any_eq_false.1 h w.convs[j] (List.mem_iff_getElem?.2 ⟨j,by rw[List.getElem?_take,if_pos hj];exact zE _⟩)
  simpa using this
 have e:q78 w p=some (k,decide (p.to=w.convs[k].ins)&&decide (p.frm=w.convs[k].out)):=by
  unfold q78
  rw[show(w.convs.findIdx? λc=>(decide (p.to=c.ins)&&decide (p.frm=c.out))||(decide (p.to=c.out)&&p.frm.door&&decide (p.frm.p=portOf w.door.map c.ins)))=some k from this]
  simp only[zE hk]
 unfold qam
 rw[e]
 simp only[zE hk]
theorem qed (w:World) (p:Pk) (c:Conv):q5r w p c=((decide (p.to=c.ins)&&decide (p.frm=c.out))||(decide (p.to=c.out)&&p.frm.door&&decide (p.frm.p=portOf w.door.map c.ins))):=rfl
structure NetX (X:List (E×E)) (cs:List Conv) (p:Pk):Prop where
 pk:PkP p
 c:p.frm.inside=true→(∃c∈cs,p.frm=c.ins∧p.to=c.out)∨(p.frm,p.to)∈X
structure WX (X:List (E×E)) (w:World):Prop where
 cv:∀c∈w.convs,convOk c=true
 cl:w.convs.length≤2
 door:doorOk w.door=true
 fl:∀f∈w.door.flows,(∃c∈w.convs,f.ins=c.ins∧f.out=c.out)∨(f.ins,f.out)∈X
 nl:w.nets.length≤10
 net:∀p∈w.nets,NetX X w.convs p
variable {X:List (E×E)}
theorem NetP.x {cs:List Conv} {p:Pk} (h:NetP cs p):NetX X cs p:=⟨h.pk,λhi=>.inl (h.c hi)⟩
theorem WX.flows4 {w:World} (h:WX X w):w.door.flows.length≤4:=(q0c.1 h.door).2.1
theorem qej {cs:List Conv} {i:Nat} {c x:Conv} (hi:cs[i]?=some c) (h1:x.ins=c.ins) (h2:x.out=c.out) {a b:E} (h:∃c∈cs,a=c.ins∧b=c.out):∃c∈cs.set i x,a=c.ins∧b=c.out:=by
 obtain⟨c',hc',h3,h4⟩:=h
 obtain⟨j,hj⟩:=List.mem_iff_getElem?.1 hc'
 by_cases hij:i=j
 ·subst hij
  rw[hi] at hj;cases hj
  have hl:=(List.getElem?_eq_some_iff.1 hi).1
  exact⟨x,List.mem_set hl x,by rw[h3,h1],by rw[h4,h2]⟩
 ·exact⟨c',List.mem_iff_getElem?.2 ⟨j,by rw[List.getElem?_set_ne hij];exact hj⟩,h3,h4⟩
theorem NetX.set {cs:List Conv} {i:Nat} {c x:Conv} {p:Pk} (hi:cs[i]?=some c) (h1:x.ins=c.ins) (h2:x.out=c.out) (h:NetX X cs p):NetX X (cs.set i x) p :=
 ⟨h.pk,λhin=>(h.c hin).imp (qej hi h1 h2) id⟩
theorem WX.setC {w:World} (h:WX X w) {i:Nat} {c x:Conv} (hi:w.convs[i]?=some c) (h1:x.ins=c.ins) (h2:x.out=c.out) (hx:convOk x=true):WX X { w with convs:=w.convs.set i x }:=by
 refine⟨λy hy=>?_,by simpa using h.cl,h.door,λf hf=>(h.fl f hf).imp (qej hi h1 h2) id,h.nl,λp hp=>(h.net p hp).set hi h1 h2⟩
 rcases List.mem_or_eq_of_mem_set hy with hy|rfl
 ·exact h.cv y hy
 ·exact hx
theorem qor {cs:List Conv} {d:Door} {p q:Pk} (hd:doorOk d=true) (hp:PkP p) (h:(q1o d p).2=some q):NetX X cs q:=by
 unfold q1o at h
 split at h
 ·rename_i ho
  simp only[Pk.outward,Bool.and_eq_true] at ho
  cases hok:(q20 d p.frm p.to).2.2 with
  | false=>rw[qav hok] at h;cases h
  | true =>
    have hx:=q86 hd ho.1 ho.2 hok
    rw[q7x hok hx.kl] at h
    obtain⟨h1,h2,_⟩:=qw9 hx.ok hx.kl hp h
    exact⟨h1,λhin=>by rw[h2] at hin;cases hin⟩
 ·split at h
  ·rename_i hi
   simp only[Pk.inward,Bool.and_eq_true] at hi
   cases h1:q0x d.map p.to.p with
   | none=>rw[qaw h1] at h;cases h
   | some i =>
     cases h2:q0y d.flows i p.frm with
     | none=>rw[qal h1 h2] at h;cases h
     | some k =>
       obtain⟨hk,he⟩:=qb8 h1 h2
       rw[he] at h
       obtain⟨h3,h4,_⟩:=inK_P hd hk hp h
       exact⟨h3,λhin=>by rw[h4,q5c hi.1] at hin;cases hin⟩
  ·cases h
theorem q6w {w:World} {p:Pk} (h:WX X w) (hp:NetX X w.convs p):WX X (q2g w p).1∧∀q,(q2g w p).2=some q→NetX X (q2g w p).1.convs q:=by
 unfold q2g
 split
 ·refine⟨⟨h.cv,h.cl,(qjx h.door hp.pk).1,λf hf=>?_,h.nl,h.net⟩,λq hq=>qor h.door hp.pk hq⟩
  simp only at hf
  unfold q1o at hf
  split at hf
  ·rename_i ho
   simp only[Pk.outward,Bool.and_eq_true] at ho
   rcases qfx f hf with⟨h1,h2⟩|⟨g,hg,h1,h2⟩
   ·rw[h1,h2];exact hp.c ho.1
   ·rw[h1,h2];exact h.fl g hg
  ·split at hf
   ·obtain⟨g,hg,h1,h2⟩:=qie f hf
    rw[h1,h2];exact h.fl g hg
   ·exact h.fl f hf
 ·split
  ·exact⟨h,λq hq=>by cases hq⟩
  ·rename_i i b hb
   obtain⟨c,hc,hbe⟩:=qh3 hb
   simp only[hc]
   have hcv:=h.cv c (List.mem_of_getElem? hc)
   obtain⟨s1,s2,_,_⟩:=qby c b p
   refine⟨h.setC hc s1 s2 (qj2 hcv hp.pk),λq hq=>?_⟩
   obtain⟨h1,h2,h3,h4,h5⟩:=qkh hcv hp.pk hq
   refine NetX.set hc s1 s2 ⟨h1,λhin=>?_⟩
   have hcc:=q1x.1 hcv
   cases b with
   | true=>exact .inl ⟨c,List.mem_of_getElem? hc,by rw[h3];exact h5.2,by rw[h4];exact h5.1⟩
   | false =>
     rw[h3] at hin
     simp only[cond_false] at h5
     rw[h5.1,q5c hcc.1.2.1] at hin
     cases hin
theorem qc7 {w:World} {o:Option Pk} (h:WX X w) (hp:∀p,o=some p→NetX X w.convs p):WX X (q4y w o):=by
 unfold q4y
 cases o with
 | none=>exact h
 | some p =>
   simp only
   split
   ·refine⟨h.cv,h.cl,h.door,h.fl,by simp;omega,λq hq=>?_⟩
    rcases List.mem_append.1 hq with hq|hq
    ·exact h.net q hq
    ·simp only[List.mem_singleton] at hq;subst hq;exact hp _ rfl
   ·exact h
theorem qnf {w:World} (h:WX X w) {up:Bool} {a b c:Int} {p:Pk} (hs:q7l w up a b c=some p):NetX X w.convs p:=by
 unfold q7l at hs
 split at hs
 ·split at hs
  ·rename_i cv hcv
   have hm:=List.mem_of_getElem? hcv
   exact(q65 hm (h.cv _ hm) hs).x
  ·cases hs
 ·cases hs
theorem WX.erase {w:World} (h:WX X w) (k:Nat):WX X { w with nets:=w.nets.eraseIdx k } :=
 ⟨h.cv,h.cl,h.door,h.fl,by have:=List.length_eraseIdx_le w.nets k;have:=h.nl;simp only;omega,λp hp=>h.net p (List.mem_of_mem_eraseIdx hp)⟩
theorem qqu {w:World} (h:WX X w) (e:Ev):WX X (wDo w e):=by
 unfold wDo
 simp only
 split
 ·exact qc7 h λp hp=>qnf h hp
 split
 ·exact qc7 h λp hp=>qnf h hp
 split
 ·split
  ·split
   ·rename_i p hp
    have hn:=h.net p (List.mem_of_getElem? hp)
    obtain⟨h1,h2⟩:=q6w (h.erase e.a.toNat) hn
    exact qc7 h1 h2
   ·exact h
  ·exact h
 split
 ·split
  ·exact h.erase _
  ·exact h
 split
 ·split
  ·exact qc7 h λp hp=>h.net p (List.mem_of_getElem? hp)
  ·exact h
 split
 ·split
  ·rename_i hs
   exact qc7 h λp hp=>by cases hp;exact(qbq hs).x
  ·exact h
 ·exact h
variable {K:List Conv→Door→Prop} {N:List Conv→Door→Pk→Prop}
theorem qfi (c:Conv) (b:Bool) (p:Pk):(∃x,(q4x c b p).1.upGot=c.upGot++x)∧(∃x,(q4x c b p).1.downGot=c.downGot++x)∧c.upAck≤(q4x c b p).1.upAck∧c.downAck≤(q4x c b p).1.downAck:=by
 have key:∀(g:B) (n:Int) (t:B),∃x,(q0a g n t).1=g++x:=by
  intro g n t
  unfold q0a
  split
  ·exact⟨[],by simp⟩
  ·split
   ·exact⟨[],by simp⟩
   ·exact⟨_,rfl⟩
 unfold q4x
 cases b<;>simp only[cond_true,cond_false]<;>split
 ·split
  ·exact⟨⟨[],by simp⟩,⟨[],by simp⟩,Int.le_refl _,Int.le_max_left _ _⟩
  ·exact⟨key _ _ _,⟨[],by simp⟩,Int.le_refl _,Int.le_refl _⟩
 ·exact⟨⟨[],by simp⟩,⟨[],by simp⟩,Int.le_refl _,Int.le_refl _⟩
 ·split
  ·exact⟨⟨[],by simp⟩,⟨[],by simp⟩,Int.le_max_left _ _,Int.le_refl _⟩
  ·exact⟨⟨[],by simp⟩,key _ _ _,Int.le_refl _,Int.le_refl _⟩
 ·exact⟨⟨[],by simp⟩,⟨[],by simp⟩,Int.le_refl _,Int.le_refl _⟩
theorem qdz (m:List Pair) (e:E):∃x,(mOut m e).1=m++x:=by
 unfold mOut
 split
 ·exact⟨[],by simp⟩
 ·split
  ·exact⟨[],by simp⟩
  ·exact⟨_,rfl⟩
theorem qk7 (m:List Pair) (p:Pc) (s:B) (out:Bool):∃x,(turn m p s out).1=m++x:=by
 unfold turn
 cases out
 ·exact⟨[],by simp⟩
 ·simp only[cond_true,q0u]
  split
  ·have:=qdz m p.e
   split
   ·rename_i h;rw[h] at this;exact this
   ·exact⟨[],by simp⟩
  ·exact⟨[],by simp⟩
theorem q9m:∀(l:List Pc) (m:List Pair) (s:B) (out:Bool),∃x,(turned m l s out).1=m++x
 | [],m,s,out=>⟨[],by simp[turned]⟩
 | p::l,m,s,out=>by
   obtain⟨x,hx⟩:=qk7 m p (s.take p.size) out
   obtain⟨y,hy⟩:=q9m l (turn m p (s.take p.size) out).1 (s.drop p.size) out
   exact⟨x++y,by simp only[turned];rw[hy,hx,List.append_assoc]⟩
theorem qqt (m:List Pair) (s:Strm) (n:Int) (t:B) (out:Bool):∃x,(put m s n t out).1=m++x:=by
 unfold put
 split
 ·exact q9m _ _ _ _
 ·exact⟨[],by simp⟩
theorem qkb (d:Door) (p:Pk):(∃y,(q8y d p).1.map=d.map++y)∧d.flows.length≤(q8y d p).1.flows.length:=by
 have h0:(∃y,d.map=d.map++y)∧d.flows.length≤d.flows.length:=⟨⟨[],by simp⟩,Nat.le_refl _⟩
 have hop:∀x k,q6i d p.frm p.to=some (x,k)→(∃y,x.map=d.map++y)∧d.flows.length≤x.flows.length:=by
  intro x k h
  unfold q6i at h
  split at h
  ·cases h;exact h0
  ·split at h
   ·rename_i m port hm
    split at h
    ·cases h
     have:=qdz d.map p.frm
     rw[hm] at this
     exact⟨this,by simp⟩
    ·cases h
   ·cases h
 unfold q8y
 split
 ·exact h0
 ·rename_i x k ho
  have hx:=hop x k ho
  split
  ·exact hx
  ·rename_i f hf
   split
   ·split<;>exact hx
   ·split
    ·exact hx
    ·rename_i m s hp
     obtain⟨⟨y,hy⟩,hl⟩:=hx
     obtain⟨z,hz⟩:=qqt x.map f.up p.at_ p.text true
     rw[hp] at hz
     exact⟨⟨y++z,by simp only at hz ⊢;rw[hz,hy,List.append_assoc]⟩,by simpa using hl⟩
theorem qoi (d:Door) (p:Pk):(dIn d p).1.map=d.map∧(dIn d p).1.flows.length=d.flows.length:=by
 unfold dIn
 split
 ·exact⟨rfl,rfl⟩
 ·split
  ·exact⟨rfl,rfl⟩
  ·split
   ·exact⟨rfl,rfl⟩
   ·split
    ·split<;>exact⟨rfl,rfl⟩
    ·split
     ·exact⟨rfl,rfl⟩
     ·exact⟨rfl,by simp⟩
structure CExt (c d:Conv):Prop where
 ins:d.ins=c.ins
 out:d.out=c.out
 up:d.up=c.up
 down:d.down=c.down
 upGot:∃x,d.upGot=c.upGot++x
 downGot:∃x,d.downGot=c.downGot++x
 upAck:c.upAck≤d.upAck
 downAck:c.downAck≤d.downAck
theorem CExt.refl (c:Conv):CExt c c:=⟨rfl,rfl,rfl,rfl,⟨[],by simp⟩,⟨[],by simp⟩,Int.le_refl _,Int.le_refl _⟩
theorem CExt.trans {a b c:Conv} (h:CExt a b) (g:CExt b c):CExt a c:=by
 obtain⟨x,hx⟩:=h.upGot
 obtain⟨y,hy⟩:=g.upGot
 obtain⟨x',hx'⟩:=h.downGot
 obtain⟨y',hy'⟩:=g.downGot
 exact⟨g.ins.trans h.ins,g.out.trans h.out,g.up.trans h.up,g.down.trans h.down,⟨x++y,by rw[hy,hx,List.append_assoc]⟩,⟨x'++y',by rw[hy',hx',List.append_assoc]⟩,Int.le_trans h.upAck g.upAck,Int.le_trans h.downAck g.downAck⟩
structure Ext (w v:World):Prop where
 map:∃y,v.door.map=w.door.map++y
 fl:w.door.flows.length≤v.door.flows.length
 len:v.convs.length=w.convs.length
 cv:∀(i:Nat) c d,w.convs[i]?=some c→v.convs[i]?=some d→CExt c d
theorem Ext.same {w v:World} (h1:v.convs=w.convs) (h2:v.door=w.door):Ext w v :=
 ⟨⟨[],by rw[h2];simp⟩,by rw[h2];exact Nat.le_refl _,by rw[h1],λi c d hc hd=>by rw[h1,hc] at hd;cases hd;exact .refl _⟩
theorem Ext.trans {a b c:World} (h:Ext a b) (g:Ext b c):Ext a c:=by
 obtain⟨x,hx⟩:=h.map
 obtain⟨y,hy⟩:=g.map
 refine⟨⟨x++y,by rw[hy,hx,List.append_assoc]⟩,Nat.le_trans h.fl g.fl,g.len.trans h.len,λi p q hp hq=>?_⟩
 have hl:i<b.convs.length:=by rw[h.len];exact(List.getElem?_eq_some_iff.1 hp).1
 exact(h.cv i p _ hp (zE hl)).trans (g.cv i _ q (zE hl) hq)
theorem qj9 (w:World) (p:Pk):Ext w (q2g w p).1:=by
 unfold q2g
 split
 ·have h:(∃y,(q1o w.door p).1.map=w.door.map++y)∧w.door.flows.length≤(q1o w.door p).1.flows.length:=by
   unfold q1o
   split
   ·exact qkb _ _
   ·split
    ·have:=qoi w.door p
     exact⟨⟨[],by rw[this.1];simp⟩,by omega⟩
    ·exact⟨⟨[],by simp⟩,Nat.le_refl _⟩
  exact⟨h.1,h.2,rfl,λi c d hc hd=>by simp only at hd;rw[hc] at hd;cases hd;exact .refl _⟩
 ·split
  ·exact .same rfl rfl
  ·rename_i i b hb
   split
   ·exact .same rfl rfl
   ·rename_i c hc
    refine⟨⟨[],by simp⟩,Nat.le_refl _,by simp,λj x y hx hy=>?_⟩
    simp only at hy
    by_cases hij:i=j
    ·subst hij
     rw[hc] at hx;cases hx
     rw[List.getElem?_set_self (List.getElem?_eq_some_iff.1 hc).1] at hy;cases hy
     obtain⟨s1,s2,s3,s4⟩:=qby c b p
     obtain⟨g1,g2,g3,g4⟩:=qfi c b p
     exact⟨s1,s2,s3,s4,g1,g2,g3,g4⟩
    ·rw[List.getElem?_set_ne hij,hx] at hy;cases hy;exact .refl _
def dgt (k:Nat) (out:B):B:=if h:k=0 then out else dgt (k / 10) (UInt8.ofNat (48+k % 10)::out)
def mtx (k:Int):B:=if k≤0 then [109,48] else 109::dgt k.toNat []
def mkS {α:Type} (f:Int→α) (s k:Int) (n:Nat):List α:=(List.range n).map λi:Nat=>f (k+s*(i:Int))
section
variable {α:Type} {f:Int→α} {s k:Int}
theorem q0o (n:Nat):(mkS f s k n).length=n:=by simp[mkS]
theorem qmu:mkS f s k 0=[]:=rfl
theorem q82 (n:Nat):mkS f s k (n+1)=mkS f s k n++[f (k+s*n)]:=by simp[mkS,List.range_succ]
theorem qaa {n i:Nat} (h:i<n) [Inhabited α]:(mkS f s k n).getD i default=f (k+s*i):=by
 have:(List.range n)[i]?=some i:=by rw[List.getElem?_range h]
 simp[mkS,List.getD,List.getElem?_map,this]
end
def mkC (k:Int):Conv:=⟨⟨k,k+1⟩,⟨k+2,k+3⟩,mtx (k+4),mtx (k+5),k+6,k+7,mtx (k+8),mtx (k+9)⟩
def qa0 (k:Int):Pair:=⟨k,⟨k+1,k+2⟩⟩
def qag (k:Int):Part:=⟨k,mtx (k+1)⟩
def qbk (k:Int):Pk:=⟨k,⟨k+1,k+2⟩,⟨k+3,k+4⟩,k+5,mtx (k+6)⟩
def flE (k:Int) (f:Flw):Int:=k+6+2*f.up.parts.length+2*f.down.parts.length
def qcq (k:Int) (f:Flw):Flw:=⟨⟨k,k+1⟩,⟨k+2,k+3⟩,⟨mtx (k+4),mkS qag 2 (k+5) f.up.parts.length⟩,⟨mtx (k+5+2*f.up.parts.length),mkS qag 2 (k+6+2*f.up.parts.length) f.down.parts.length⟩⟩
def qff (l:Int) (n:Nat):Int:=if l - n<0 then -1 else l - n
def sz1 (l:Int) (n:Nat):Int:=if l<0 then -1 else qff l n
def szC (l:Int) (c:Conv):Int:=sz1 (sz1 (sz1 (qff l c.up.length) c.down.length) c.upGot.length) c.downGot.length
def szE (l:Int) (e:Ev):Int:=qff l e.pkt.text.length
def szL {α:Type} (f:Int→α→Int):Int→List α→Int
 | l,[]=>l
 | l,c::cs=>if f l c<0 then -1 else szL f (f l c) cs
def szS {α:Type} (f:Int→α→Int) (l:Int) (cs:List α):Int:=if l - cs.length<0 then -1 else szL f (l - cs.length) cs
theorem qco {l:Int} {n:Nat} (h:0≤qff l n):qff l n=l - n∧(n:Int)≤l:=by
 unfold qff at *;split at h
 ·omega
 ·rename_i h1;rw[if_neg h1];omega
theorem qiu {l:Int} {n:Nat} (h:0≤sz1 l n):0≤l∧sz1 l n=l - n∧(n:Int)≤l:=by
 unfold sz1 at *;split at h
 ·omega
 ·rename_i h1;rw[if_neg h1];have:=qco h;omega
theorem qn4 {l:Int} {c:Conv} (h:0≤szC l c):szC l c≤l∧(c.up.length:Int)≤l∧(c.down.length:Int)≤l∧(c.upGot.length:Int)≤l∧(c.downGot.length:Int)≤l:=by
 unfold szC at *
 obtain⟨h1,h2,h3⟩:=qiu h
 obtain⟨h4,h5,h6⟩:=qiu h1
 obtain⟨h7,h8,h9⟩:=qiu h4
 have:=qco h7
 omega
theorem qy1 {l:Int} {e:Ev} (h:0≤szE l e):szE l e≤l∧(e.pkt.text.length:Int)≤l:=by
 have:=qco h
 unfold szE at *
 omega
theorem qnt {α:Type} {f:Int→α→Int} {Q:Int→α→Prop} (hf:∀l c,0≤f l c→f l c≤l∧Q l c) (hq:∀l l' c,l≤l'→Q l c→Q l' c):∀(cs:List α) (l:Int),0≤szL f l cs→szL f l cs≤l∧∀c∈cs,Q l c
 | [],l,_=>⟨Int.le_refl _,λc h=>by cases h⟩
 | c::cs,l,h=>by
   unfold szL at *
   split at h
   ·omega
   ·rename_i h1
    rw[if_neg h1]
    obtain⟨a,b⟩:=hf l c (by omega)
    obtain⟨d,e⟩:=qnt hf hq cs _ h
    refine⟨by omega,λx hx=>?_⟩
    rcases List.mem_cons.1 hx with rfl|hx
    ·exact b
    ·exact hq _ _ _ a (e x hx)
theorem qz9 {α:Type} {f:Int→α→Int} {Q:Int→α→Prop} (hf:∀l c,0≤f l c→f l c≤l∧Q l c) (hq:∀l l' c,l≤l'→Q l c→Q l' c) (cs:List α) (l:Int) (h:0≤szS f l cs):szS f l cs≤l∧(cs.length:Int)≤l∧∀c∈cs,Q l c:=by
 unfold szS at *
 split at h
 ·omega
 ·rename_i h1
  rw[if_neg h1]
  obtain⟨a,b⟩:=qnt hf hq cs _ h
  exact⟨by omega,by omega,λc hc=>hq _ _ _ (by omega) (b c hc)⟩
theorem qq7 {cs:List Conv} {l:Int} (h:0≤szS szC l cs):szS szC l cs≤l∧(cs.length:Int)≤l∧∀c∈cs,(c.up.length:Int)≤l∧(c.down.length:Int)≤l∧(c.upGot.length:Int)≤l∧(c.downGot.length:Int)≤l :=
 qz9 (Q:=λl c=>(c.up.length:Int)≤l∧(c.down.length:Int)≤l∧(c.upGot.length:Int)≤l∧(c.downGot.length:Int)≤l) (λ_ _ h=>qn4 h) (λ_ _ _ h h2=>by omega) cs l h
def St (T:B) (q:Pk):Prop:=0≤q.at_∧q.at_.toNat≤T.length∧q.text <+: T.drop q.at_.toNat
variable {K:List Conv→Door→Prop} {N:List Conv→Door→Pk→Prop}
theorem q79:∀(n:Nat) (w:World),through n w none=w
 | 0,_=>rfl
 | _+1,_=>rfl
theorem q1v:∀(n:Nat) (w:World) (o:Option Pk),Ext w (through n w o)
 | 0,_,_=>.same rfl rfl
 | _+1,_,none=>.same rfl rfl
 | n+1,w,some p=>(qj9 w p).trans (q1v n _ _)
theorem q5h {α:Type} {P:α→Bool} {l:List α} {k:Nat} (hk:k<l.length) (h:(l.take k).any P=false) (hp:P l[k]=false):(l.take (k+1)).any P=false:=by
 rw[List.take_add_one,zE hk]
 simp only[Option.toList_some,List.any_append,h,List.any_cons,List.any_nil,Bool.or_false,Bool.false_or,hp]
variable {X:List (E×E)}
variable {X:List (E×E)}
theorem NetX.ext {w v:World} {p:Pk} (h:NetX X w.convs p) (hx:Ext w v):NetX X v.convs p:=⟨h.pk,λhi=>(h.c hi).imp (λ⟨c,hc,h1,h2⟩=>by
 obtain⟨i,hi⟩:=List.mem_iff_getElem?.1 hc
 have hl:i<v.convs.length:=by rw[hx.len];exact(List.getElem?_eq_some_iff.1 hi).1
 have hg:=zE hl
 have hce:=hx.cv i c _ hi hg
 exact⟨_,List.mem_of_getElem? hg,by rw[hce.ins,h1],by rw[hce.out,h2]⟩) id⟩
theorem WX.through:∀(n:Nat) {w:World} {o:Option Pk},WX X w→(∀p,o=some p→NetX X w.convs p)→WX X (M.through n w o)
 | 0,_,_,h,_=>h
 | _+1,_,none,h,_=>h
 | n+1,_,some p,h,ho=>by
   obtain⟨h1,h2⟩:=q6w h (ho p rfl)
   exact WX.through n h1 λq hq=>h2 q hq
theorem WX.drain:∀(l:List Pk) {w:World},WX X w→(∀p∈l,NetX X w.convs p)→WX X (l.foldl (λw p=>M.through 4 w (some p)) w)
 | [],_,h,_=>h
 | p::l,w,h,hl=>by
   have h1:=h.through 4 (o:=some p) λq hq=>by cases hq;exact hl p (by simp)
   exact WX.drain l h1 λq hq=>(hl q (List.mem_cons_of_mem _ hq)).ext (q1v 4 w (some p))
theorem WX.sayRound {w:World} (h:WX X w) (i:Nat):WX X (M.sayRound w i):=by
 unfold M.sayRound
 split
 ·exact h
 ·rename_i c hc
  have hcm:=List.mem_of_getElem? hc
  have h1:=h.through 4 (o:=say c true 0 c.upAck 24) λp hp=>(q65 hcm (h.cv c hcm) hp).x
  simp only
  split
  ·exact h1
  ·rename_i c1 hc1
   have hcm1:=List.mem_of_getElem? hc1
   exact h1.through 4 λp hp=>(q65 hcm1 (h1.cv c1 hcm1) hp).x
theorem WX.says:∀(l:List Nat) {w:World},WX X w→WX X (l.foldl M.sayRound w)
 | [],_,h=>h
 | i::l,_,h=>WX.says l (h.sayRound i)
theorem WX.empty {w:World} (h:WX X w):WX X { w with nets:=[] }:=⟨h.cv,h.cl,h.door,h.fl,Nat.zero_le _,λp hp=>by cases hp⟩
theorem WX.round {w:World} (h:WX X w):WX X (M.round w):=WX.says _ (WX.drain w.nets (w:={ w with nets:=[] }) h.empty λp hp=>h.net p hp)
theorem WX.rounds:∀(n:Nat) {w:World},WX X w→WX X (M.rounds n w)
 | 0,_,h=>h
 | n+1,_,h=>WX.rounds n h.round
end Go.Proofs.YtpppoklkijmeoaaGreatDoor.M
namespace Go.Proofs.YtpppoklkijmeoaaGreatDoor.W
open Go Go.RowKit Go.Proofs Go.Proofs.YtpppoklkijmeoaaGreatDoor.VL Go.Proofs.YtpppoklkijmeoaaGreatDoor.M
def quz (v:Value):Prop:=v=.nilIface∨∃t p,v=.iface t p
def G:Glob where
 g W:=(∃m,W.cell? ⟨0,0,none⟩=some (.int .i64 m))∧(∃v,W.cell? ⟨1,0,none⟩=some v∧quz v)∧∃v,W.cell? ⟨2,0,none⟩=some v∧quz v
 ng:=3
 stays:=λW W' h hs ho ht hu hb=>by
  have e:∀b,b<3→W'.cell? ⟨b,0,none⟩=W.cell? ⟨b,0,none⟩:=λb hb4=>q4r (hb b hb4)
  rw[e 0 (by omega),e 1 (by omega),e 2 (by omega)]
  exact h
 there:=λW h=>by
  obtain⟨_,_,v,h,_⟩:=h
  have:∃o,W.heap[2]?=some o:=by
   cases hh:W.heap[2]? with
   | none=>simp[World.cell?,hh] at h
   | some o=>exact⟨o,rfl⟩
  obtain⟨o,ho⟩:=this
  have:=q24 ho
  omega
def q6d:V→Option Value
 | .int k n=>some (.int k n)
 | .bool b=>some (.bool b)
 | .str s=>some (.string (mkStr s))
 | .nile=>some .nilIface
 | _=>none
theorem qdj {w:World} {O:Nat→Prop} {ρ:Nat→VL.Loc} {h:Nat→Hs} {v:V} {u x:Value} (hp:q6d v=some x) (hd:Den w O ρ h v u):u=x:=by
 cases v<;>simp only[q6d,zS,reduceCtorEq] at hp
 all_goals subst hp
 ·exact q52 hd
 ·exact q6r hd
 ·exact q66 hd
 ·exact qef hd
theorem q8c {w:World} {O:Nat→Prop} {ρ:Nat→VL.Loc} {h:Nat→Hs} {v:V} {x:Value} (hp:q6d v=some x):Den2 w O ρ h v x:=by
 cases v<;>simp only[q6d,zS,reduceCtorEq] at hp
 all_goals subst hp
 ·exact Imm.int _ _
 ·exact Imm.bool _
 ·exact Imm.str _
 ·exact Imm.nile
def qhh:V→Option Value
 | .tup vs=>(vs.mapM q6d).map λus=>.tuple us.toArray
 | v=>q6d v
theorem q9s {w:World} {O:Nat→Prop} {ρ:Nat→VL.Loc} {h:Nat→Hs} {v:V} {x:Value} (hp:qhh v=some x):Den w O ρ h v x:=by
 by_cases ht:∃vs,v=.tup vs
 ·obtain⟨vs,rfl⟩:=ht
  simp only[qhh,zM] at hp
  obtain⟨us,hm,rfl⟩:=hp
  obtain⟨h1,h2⟩:=q2h hm
  refine⟨us,rfl,h1,λj v u hv hu=>q8c (h2 j v u hv hu)⟩
 ·have hp:q6d v=some x:=by cases v<;>first|exact hp|exact absurd ⟨_,rfl⟩ ht
  have:=q8c (w:=w) (O:=O) (ρ:=ρ) (h:=h) hp
  cases v<;>first|exact this|exact absurd ⟨_,rfl⟩ ht
section
variable {P:Program}
theorem FnP.lib {f:FuncId} {vs:List V} {us:List Value} {post:V→Prop} (hn:entr P f=true) (h1:vs.mapM q6d=some us) (hne:∃r,post r)
 (h:∀W,G.g W→Calls P f us.toArray W λe W'=>Below W.heap.size W W'∧∃u v,e=.returned u∧post v∧∀O,(∀b,O b→b<W.heap.size)→Den W' O (λ_=>default) (λ_=>.fresh) v u) :
 FnP P G f 0 [] vs (λr o=>o=[]∧post r) where
 en:=hn
 ne:=let ⟨r,h⟩:=hne;⟨r,[],rfl,h⟩
 run:=λW ρ ext us' hg hlt hno hng r hargs=>by
  obtain⟨h2,h3⟩:=q2h h1
  have e:us'=us:=by
   obtain⟨h4,h5⟩:=hargs
   apply List.ext_getElem?
   intro j
   cases hj:us'[j]? with
   | none =>
     have:=List.getElem?_eq_none_iff.1 hj
     exact(List.getElem?_eq_none_iff.2 (by omega)).symm
   | some u =>
     have hjl:j<us'.length:=(List.getElem?_eq_some_iff.1 hj).1
     have hv:=zE (l:=vs) (show j<vs.length by omega)
     have hu:=zE (l:=us) (show j<us.length by omega)
     rw[hu,qdj (h3 j (vs[j]'(by omega)) (us[j]'(by omega)) hv hu) (h5 j _ u hv hj)]
  subst e
  refine(h W hg).mono λe W' ⟨hb,u,v,he,hp,hd⟩=>?_
  have hc:chH []=λ_=>.fresh:=by funext x;simp[chH]
  have hnb:∀b,¬blocks ρ (chH []) b:=λb ⟨c,hl,_⟩=>by rw[hc] at hl;cases hl
  refine⟨u,v,[],λ_=>default,he,⟨rfl,hp⟩,⟨hb.os,hb.tape,hb.output,hb.size,λb hb1 _=>hb.block b hb1,λc=>(by rw[hc];trivial),λc hl=>(by rw[hc] at hl;cases hl),λc c' hl=>(by rw[hc] at hl;cases hl),λi hi=>absurd hi (Nat.not_lt_zero _)⟩, ?_⟩
  rw[hc]
  refine hd _ λb hb=>?_
  rcases hb with hb|⟨c,hl,_⟩
  ·exact hlt b hb
  ·cases hl
theorem FnR.lib {f:FuncId} {vs:List V} {us:List Value} {v:V} {u:Value} (hn:entr P f=true) (h1:vs.mapM q6d=some us) (h2:qhh v=some u)
 (h:∀W,G.g W→Calls P f us.toArray W λe W'=>e=.returned u∧Below W.heap.size W W'):FnR P G f vs v:=by
 have:=FnP.lib (P:=P) (f:=f) (vs:=vs) (post:=λr=>r=v) hn h1 ⟨v,rfl⟩ λW hg=>(h W hg).mono λe W' ⟨he,hb⟩=>⟨hb,u,v,he,rfl,λO _=>q9s h2⟩
 exact⟨this.en,this.ne.imp λr ⟨o,h⟩=>⟨o,h.2,h.1⟩,λW ρ ext us a b c d e f=>(this.run W ρ ext us a b c d e f).mono λe W' ⟨u,r,o,ρ',he,⟨h1,h2⟩,h3⟩=>⟨u,r,o,ρ',he,⟨h2,h1⟩,h3⟩⟩
end
end Go.Proofs.YtpppoklkijmeoaaGreatDoor.W
namespace Go.Proofs.YtpppoklkijmeoaaGreatDoor.M
open Go Go.Proofs.YtpppoklkijmeoaaGreatDoor.VL
def E.row (e:E):List V:=[.int .i64 e.a,.int .i64 e.p]
def Pc.row (p:Pc):List V:=[.int .i64 p.size,.bool p.named,.int .i64 p.e.a,.int .i64 p.e.p]
def Pair.row (p:Pair):List V:=[.int .i64 p.port,.int .i64 p.ins.a,.int .i64 p.ins.p]
def Part.row (p:Part):List V:=[.int .i64 p.size,.str p.text]
def Strm.row (s:Strm):List V:=[.str s.inn,.sl 2 (s.parts.map Part.row)]
def Flw.row (f:Flw):List V:=[.int .i64 f.ins.a,.int .i64 f.ins.p,.int .i64 f.out.a,.int .i64 f.out.p,.str f.up.inn,.sl 2 (f.up.parts.map Part.row),.str f.down.inn,.sl 2 (f.down.parts.map Part.row)]
def Pk.row (p:Pk):List V:=[.int .i64 p.kind,.int .i64 p.frm.a,.int .i64 p.frm.p,.int .i64 p.to.a,.int .i64 p.to.p,.int .i64 p.at_,.str p.text]
def Door.row (d:Door):List V:=[.sl 3 (d.map.map Pair.row),.sl 8 (d.flows.map Flw.row)]
def Conv.row (c:Conv):List V:=[.int .i64 c.ins.a,.int .i64 c.ins.p,.int .i64 c.out.a,.int .i64 c.out.p,.str c.up,.str c.down,.int .i64 c.upAck,.int .i64 c.downAck,.str c.upGot,.str c.downGot]
def World.row (w:World):List V:=[.sl 10 (w.convs.map Conv.row),.sl 3 (w.door.map.map Pair.row),.sl 8 (w.door.flows.map Flw.row),.sl 7 (w.nets.map Pk.row)]
def Ev.row (e:Ev):List V:=[.int .i64 e.kind,.int .i64 e.a,.int .i64 e.b,.int .i64 e.c,.int .i64 e.pkt.kind,.int .i64 e.pkt.frm.a,.int .i64 e.pkt.frm.p,.int .i64 e.pkt.to.a,.int .i64 e.pkt.to.p,.int .i64 e.pkt.at_,.str e.pkt.text]
def rdV (o:Option E):V:=.tup [.agg [.int .i64 (o.getD .zero).a,.int .i64 (o.getD .zero).p],.bool o.isSome]
theorem E.eta (e:E):E.mk e.a e.p=e:=by cases e;rfl
theorem Pc.eta (q:Pc):Pc.mk q.size q.named q.e=q:=by cases q;rfl
theorem Pair.eta (q:Pair):Pair.mk q.port q.ins=q:=by cases q;rfl
theorem Part.eta (q:Part):Part.mk q.size q.text=q:=by cases q;rfl
theorem Strm.eta (q:Strm):Strm.mk q.inn q.parts=q:=by cases q;rfl
theorem Pk.eta (q:Pk):Pk.mk q.kind q.frm q.to q.at_ q.text=q:=by cases q;rfl
theorem Flw.eta (q:Flw):Flw.mk q.ins q.out q.up q.down=q:=by cases q;rfl
theorem Conv.eta (q:Conv):Conv.mk q.ins q.out q.up q.down q.upAck q.downAck q.upGot q.downGot=q:=by cases q;rfl
theorem Door.eta (q:Door):Door.mk q.map q.flows=q:=by cases q;rfl
theorem World.eta (q:World):World.mk q.convs q.door q.nets=q:=by cases q;rfl
theorem Ev.eta (q:Ev):Ev.mk q.kind q.a q.b q.c q.pkt=q:=by cases q;rfl
end Go.Proofs.YtpppoklkijmeoaaGreatDoor.M
namespace Go.Proofs
open Go.Shelf
def Tryz.lays169_ren:Go.Shelf.Ren:=⟨fun|169=>207|n=>n,fun|70=>232|9=>9|0=>0|72=>234|37=>154|127=>244|3=>3|5=>5|n=>n,fun|n=>n⟩
theorem Tryz.lays169:Go.Proofs.Lays.n169 Tryz.prog Tryz.lays169_ren:={
 mixed:=by kernel_rfl
 f169:=Tryz.func207.trans (congrArg some (by kernel_rfl))
 t0:=Tryz.underlying0
 a0:=Tryz.isAgg0
 z0:=Tryz.sizeOf0
 v0:=Tryz.zeroValue0
 t3:=Tryz.underlying3
 a3:=Tryz.isAgg3
 z3:=Tryz.sizeOf3
 v3:=Tryz.zeroValue3
 t9:=Tryz.underlying9
 a9:=Tryz.isAgg9
 z9:=Tryz.sizeOf9
 v9:=Tryz.zeroValue9
 t37:=Tryz.underlying154
 a37:=Tryz.isAgg154
 z37:=Tryz.sizeOf154
 v37:=Tryz.zeroValue154
 t70:=Tryz.underlying232
 a70:=Tryz.isAgg232
 z70:=Tryz.sizeOf232
 v70:=Tryz.zeroValue232
 t72:=Tryz.underlying234
 a72:=Tryz.isAgg234
 z72:=Tryz.sizeOf234
 v72:=Tryz.zeroValue234
 t127:=Tryz.underlying244
 a127:=Tryz.isAgg244
 z127:=Tryz.sizeOf244
 v127:=Tryz.zeroValue244 }
theorem Tryz.Builder_Extra_169:Builder.Extra Tryz.prog Tryz.lays169_ren:={
 sizeBuilder:=by kernel_rfl
 liesBuilder:=by kernel_rfl
 t5:=Tryz.underlying5
 a5:=Tryz.isAgg5
 z5:=Tryz.sizeOf5
 v5:=Tryz.zeroValue5
 infoByte:=by kernel_rfl
 cellsByte:=by kernel_rfl
 sizeByte:=by kernel_rfl
 neB5:=by decide }
open Go.RowKit in
theorem Tryz.Builder_String_any (B b:Nat) (l:List UInt8) (w:World) (h:Lib.IsBuilder 234 5 B b (Lib.byteCells l) w) (hBw:B≤w.heap.size) :
 Calls Tryz.prog 207 #[.pointer (some ⟨b,0,none⟩)] w λe w'=>e=.returned (.string ⟨l.toArray⟩)∧Below B w w':=Any.Builder_String_any Tryz.lays169 Tryz.Builder_Extra_169 B b l w h hBw
def Tryz.lays103_ren:Go.Shelf.Ren:=⟨fun|103=>188|210=>202|206=>211|n=>n,fun|9=>9|4=>4|24=>183|3=>3|n=>n,fun|n=>n⟩
theorem Tryz.lays103:Go.Proofs.Lays.n103 Tryz.prog Tryz.lays103_ren:={
 mixed:=by kernel_rfl
 f103:=Tryz.func188.trans (congrArg some (by kernel_rfl))
 f206:=Tryz.func211.trans (congrArg some (by kernel_rfl))
 f210:=Tryz.func202.trans (congrArg some (by kernel_rfl))
 t3:=Tryz.underlying3
 a3:=Tryz.isAgg3
 z3:=Tryz.sizeOf3
 v3:=Tryz.zeroValue3
 t4:=Tryz.underlying4
 a4:=Tryz.isAgg4
 z4:=Tryz.sizeOf4
 v4:=Tryz.zeroValue4
 t9:=Tryz.underlying9
 a9:=Tryz.isAgg9
 z9:=Tryz.sizeOf9
 v9:=Tryz.zeroValue9
 t24:=Tryz.underlying183
 a24:=Tryz.isAgg183
 z24:=Tryz.sizeOf183
 v24:=Tryz.zeroValue183 }
open Go.RowKit in
theorem Tryz.strings_CutPrefix (s p:ByteArray) (w:World) :
 Calls Tryz.prog 188 #[.string s,.string p] w λe w'=>e=.returned (.tuple #[.string ⟨(Lib.trimPrefix s.data.toList p.data.toList).toArray⟩,.bool (Lib.hasPrefix s.data.toList p.data.toList)])∧w'=w:=Any.strings_CutPrefix Tryz.lays103 s p w
def Tryz.lays171_ren:Go.Shelf.Ren:=⟨fun|171=>214|243=>222|246=>234|283=>239|284=>240|285=>241|286=>242|129=>246|317=>245|318=>247|319=>248|320=>249|337=>250|338=>251|n=>n,fun|3=>3|9=>9|2=>2|4=>4|171=>269|0=>0|53=>263|37=>154|5=>5|173=>272|212=>279|51=>260|20=>20|213=>280|46=>252|232=>284|233=>285|n=>n,fun|17=>3|18=>4|19=>5|n=>n⟩
theorem Tryz.lays171:Go.Proofs.Lays.n171 Tryz.prog Tryz.lays171_ren:={
 mixed:=by kernel_rfl
 f129:=Tryz.func246.trans (congrArg some (by kernel_rfl))
 f171:=Tryz.func214.trans (congrArg some (by kernel_rfl))
 f243:=Tryz.func222.trans (congrArg some (by kernel_rfl))
 f246:=Tryz.func234.trans (congrArg some (by kernel_rfl))
 f283:=Tryz.func239.trans (congrArg some (by kernel_rfl))
 f284:=Tryz.func240.trans (congrArg some (by kernel_rfl))
 f285:=Tryz.func241.trans (congrArg some (by kernel_rfl))
 f286:=Tryz.func242.trans (congrArg some (by kernel_rfl))
 f317:=Tryz.func245.trans (congrArg some (by kernel_rfl))
 f318:=Tryz.func247.trans (congrArg some (by kernel_rfl))
 f319:=Tryz.func248.trans (congrArg some (by kernel_rfl))
 f320:=Tryz.func249.trans (congrArg some (by kernel_rfl))
 f337:=Tryz.func250.trans (congrArg some (by kernel_rfl))
 f338:=Tryz.func251.trans (congrArg some (by kernel_rfl))
 t0:=Tryz.underlying0
 a0:=Tryz.isAgg0
 z0:=Tryz.sizeOf0
 v0:=Tryz.zeroValue0
 t2:=Tryz.underlying2
 a2:=Tryz.isAgg2
 z2:=Tryz.sizeOf2
 v2:=Tryz.zeroValue2
 t3:=Tryz.underlying3
 a3:=Tryz.isAgg3
 z3:=Tryz.sizeOf3
 v3:=Tryz.zeroValue3
 t4:=Tryz.underlying4
 a4:=Tryz.isAgg4
 z4:=Tryz.sizeOf4
 v4:=Tryz.zeroValue4
 t5:=Tryz.underlying5
 a5:=Tryz.isAgg5
 z5:=Tryz.sizeOf5
 v5:=Tryz.zeroValue5
 t9:=Tryz.underlying9
 a9:=Tryz.isAgg9
 z9:=Tryz.sizeOf9
 v9:=Tryz.zeroValue9
 t20:=Tryz.underlying20
 a20:=Tryz.isAgg20
 z20:=Tryz.sizeOf20
 v20:=Tryz.zeroValue20
 t37:=Tryz.underlying154
 a37:=Tryz.isAgg154
 z37:=Tryz.sizeOf154
 v37:=Tryz.zeroValue154
 t46:=Tryz.underlying252
 a46:=Tryz.isAgg252
 z46:=Tryz.sizeOf252
 v46:=Tryz.zeroValue252
 t51:=Tryz.underlying260
 a51:=Tryz.isAgg260
 z51:=Tryz.sizeOf260
 v51:=Tryz.zeroValue260
 t53:=Tryz.underlying263
 a53:=Tryz.isAgg263
 z53:=Tryz.sizeOf263
 v53:=Tryz.zeroValue263
 t171:=Tryz.underlying269
 a171:=Tryz.isAgg269
 z171:=Tryz.sizeOf269
 v171:=Tryz.zeroValue269
 t173:=Tryz.underlying272
 a173:=Tryz.isAgg272
 z173:=Tryz.sizeOf272
 v173:=Tryz.zeroValue272
 t212:=Tryz.underlying279
 a212:=Tryz.isAgg279
 z212:=Tryz.sizeOf279
 v212:=Tryz.zeroValue279
 t213:=Tryz.underlying280
 a213:=Tryz.isAgg280
 z213:=Tryz.sizeOf280
 t232:=Tryz.underlying284
 a232:=Tryz.isAgg284
 z232:=Tryz.sizeOf284
 v232:=Tryz.zeroValue284
 t233:=Tryz.underlying285
 a233:=Tryz.isAgg285
 z233:=Tryz.sizeOf285
 v233:=Tryz.zeroValue285
 g17:=by kernel_rfl
 g18:=by kernel_rfl
 g19:=by kernel_rfl }
open Go.RowKit Go.Sort Go.Lib in
theorem Tryz.strconv_Itoa_small (i:Nat) (hi:i<100) (w:World) :
 Calls Tryz.prog 214 #[.int .i64 i] w λe w'=>e=.returned (.string ⟨(Lib.decDigits i).toArray⟩)∧w'=w:=Any.strconv_Itoa_small Tryz.lays171 i hi w
def Tryz.laysM316_ren:Go.Shelf.Ren:=⟨fun|316=>224|n=>n,fun|9=>9|3=>3|4=>4|37=>154|0=>0|127=>244|5=>5|n=>n,fun|n=>n⟩
theorem Tryz.laysM316:Go.Proofs.LaysM.n316 Tryz.prog Tryz.laysM316_ren:={
 mixed:=by kernel_rfl
 f316:=Tryz.func224.trans (congrArg some (by kernel_rfl))
 t0:=Tryz.underlying0
 a0:=Tryz.isAgg0
 z0:=Tryz.sizeOf0
 v0:=Tryz.zeroValue0
 t3:=Tryz.underlying3
 a3:=Tryz.isAgg3
 z3:=Tryz.sizeOf3
 v3:=Tryz.zeroValue3
 t4:=Tryz.underlying4
 a4:=Tryz.isAgg4
 z4:=Tryz.sizeOf4
 v4:=Tryz.zeroValue4
 t9:=Tryz.underlying9
 a9:=Tryz.isAgg9
 z9:=Tryz.sizeOf9
 v9:=Tryz.zeroValue9
 t37:=Tryz.underlying154
 a37:=Tryz.isAgg154
 z37:=Tryz.sizeOf154
 v37:=Tryz.zeroValue154
 t127:=Tryz.underlying244
 a127:=Tryz.isAgg244
 z127:=Tryz.sizeOf244
 v127:=Tryz.zeroValue244
 t5:=Tryz.underlying5
 a5:=Tryz.isAgg5
 z5:=Tryz.sizeOf5
 v5:=Tryz.zeroValue5
 i0:=by kernel_rfl
 i3:=by kernel_rfl
 i4:=by kernel_rfl
 i5:=by kernel_rfl
 i9:=by kernel_rfl
 i37:=by kernel_rfl
 i127:=by kernel_rfl }
open Go.RowKit in
theorem Tryz.stringslite_Clone (s:ByteArray) (w:World) (hlim:s.size≤281474976710656) :
 Calls Tryz.prog 224 #[.string s] w λe w'=>e=.returned (.string s)∧Below w.heap.size w w':=Any.stringslite_Clone Tryz.laysM316 s w hlim
def Tryz.laysC172_ren:Go.Shelf.Ren:=⟨fun|172=>213|244=>220|245=>221|247=>229|279=>230|280=>231|281=>232|282=>233|287=>237|316=>224|171=>214|205=>238|321=>243|322=>244|243=>222|246=>234|283=>239|284=>240|285=>241|286=>242|129=>246|317=>245|318=>247|319=>248|320=>249|337=>250|338=>251|n=>n,fun|9=>9|3=>3|75=>236|76=>237|4=>4|5=>5|167=>253|37=>154|0=>0|85=>254|2=>2|168=>256|53=>263|175=>264|46=>252|210=>267|127=>244|145=>277|143=>275|21=>21|171=>269|173=>272|212=>279|51=>260|20=>20|213=>280|232=>284|233=>285|80=>223|n=>n,fun|15=>1|16=>2|17=>3|18=>4|19=>5|n=>n⟩
theorem Tryz.laysC172:Go.Proofs.LaysC.n172 Tryz.prog Tryz.laysC172_ren:={
 mixed:=by kernel_rfl
 f129:=Tryz.func246.trans (congrArg some (by kernel_rfl))
 f171:=Tryz.func214.trans (congrArg some (by kernel_rfl))
 f172:=Tryz.func213.trans (congrArg some (by kernel_rfl))
 f205:=Tryz.func238.trans (congrArg some (by kernel_rfl))
 f243:=Tryz.func222.trans (congrArg some (by kernel_rfl))
 f244:=Tryz.func220.trans (congrArg some (by kernel_rfl))
 f245:=Tryz.func221.trans (congrArg some (by kernel_rfl))
 f246:=Tryz.func234.trans (congrArg some (by kernel_rfl))
 f247:=Tryz.func229.trans (congrArg some (by kernel_rfl))
 f279:=Tryz.func230.trans (congrArg some (by kernel_rfl))
 f280:=Tryz.func231.trans (congrArg some (by kernel_rfl))
 f281:=Tryz.func232.trans (congrArg some (by kernel_rfl))
 f282:=Tryz.func233.trans (congrArg some (by kernel_rfl))
 f283:=Tryz.func239.trans (congrArg some (by kernel_rfl))
 f284:=Tryz.func240.trans (congrArg some (by kernel_rfl))
 f285:=Tryz.func241.trans (congrArg some (by kernel_rfl))
 f286:=Tryz.func242.trans (congrArg some (by kernel_rfl))
 f287:=Tryz.func237.trans (congrArg some (by kernel_rfl))
 f316:=Tryz.func224.trans (congrArg some (by kernel_rfl))
 f317:=Tryz.func245.trans (congrArg some (by kernel_rfl))
 f318:=Tryz.func247.trans (congrArg some (by kernel_rfl))
 f319:=Tryz.func248.trans (congrArg some (by kernel_rfl))
 f320:=Tryz.func249.trans (congrArg some (by kernel_rfl))
 f321:=Tryz.func243.trans (congrArg some (by kernel_rfl))
 f322:=Tryz.func244.trans (congrArg some (by kernel_rfl))
 f337:=Tryz.func250.trans (congrArg some (by kernel_rfl))
 f338:=Tryz.func251.trans (congrArg some (by kernel_rfl))
 t0:=Tryz.underlying0
 a0:=Tryz.isAgg0
 z0:=Tryz.sizeOf0
 v0:=Tryz.zeroValue0
 t2:=Tryz.underlying2
 a2:=Tryz.isAgg2
 z2:=Tryz.sizeOf2
 v2:=Tryz.zeroValue2
 t3:=Tryz.underlying3
 a3:=Tryz.isAgg3
 z3:=Tryz.sizeOf3
 v3:=Tryz.zeroValue3
 t4:=Tryz.underlying4
 a4:=Tryz.isAgg4
 z4:=Tryz.sizeOf4
 v4:=Tryz.zeroValue4
 t5:=Tryz.underlying5
 a5:=Tryz.isAgg5
 z5:=Tryz.sizeOf5
 v5:=Tryz.zeroValue5
 t9:=Tryz.underlying9
 a9:=Tryz.isAgg9
 z9:=Tryz.sizeOf9
 v9:=Tryz.zeroValue9
 t20:=Tryz.underlying20
 a20:=Tryz.isAgg20
 z20:=Tryz.sizeOf20
 v20:=Tryz.zeroValue20
 t21:=Tryz.underlying21
 a21:=Tryz.isAgg21
 z21:=Tryz.sizeOf21
 v21:=Tryz.zeroValue21
 t37:=Tryz.underlying154
 a37:=Tryz.isAgg154
 z37:=Tryz.sizeOf154
 v37:=Tryz.zeroValue154
 t46:=Tryz.underlying252
 a46:=Tryz.isAgg252
 z46:=Tryz.sizeOf252
 v46:=Tryz.zeroValue252
 t51:=Tryz.underlying260
 a51:=Tryz.isAgg260
 z51:=Tryz.sizeOf260
 v51:=Tryz.zeroValue260
 t53:=Tryz.underlying263
 a53:=Tryz.isAgg263
 z53:=Tryz.sizeOf263
 v53:=Tryz.zeroValue263
 t75:=Tryz.underlying236
 a75:=Tryz.isAgg236
 z75:=Tryz.sizeOf236
 v75:=Tryz.zeroValue236
 t76:=Tryz.underlying237
 a76:=Tryz.isAgg237
 z76:=Tryz.sizeOf237
 v76:=Tryz.zeroValue237
 t85:=Tryz.underlying254
 a85:=Tryz.isAgg254
 z85:=Tryz.sizeOf254
 v85:=Tryz.zeroValue254
 t127:=Tryz.underlying244
 a127:=Tryz.isAgg244
 z127:=Tryz.sizeOf244
 v127:=Tryz.zeroValue244
 t143:=Tryz.underlying275
 a143:=Tryz.isAgg275
 z143:=Tryz.sizeOf275
 v143:=Tryz.zeroValue275
 t145:=Tryz.underlying277
 a145:=Tryz.isAgg277
 z145:=Tryz.sizeOf277
 v145:=Tryz.zeroValue277
 t167:=Tryz.underlying253
 a167:=Tryz.isAgg253
 z167:=Tryz.sizeOf253
 v167:=Tryz.zeroValue253
 t168:=Tryz.underlying256
 a168:=Tryz.isAgg256
 z168:=Tryz.sizeOf256
 v168:=Tryz.zeroValue256
 t171:=Tryz.underlying269
 a171:=Tryz.isAgg269
 z171:=Tryz.sizeOf269
 v171:=Tryz.zeroValue269
 t173:=Tryz.underlying272
 a173:=Tryz.isAgg272
 z173:=Tryz.sizeOf272
 v173:=Tryz.zeroValue272
 t175:=Tryz.underlying264
 a175:=Tryz.isAgg264
 z175:=Tryz.sizeOf264
 v175:=Tryz.zeroValue264
 t210:=Tryz.underlying267
 a210:=Tryz.isAgg267
 z210:=Tryz.sizeOf267
 v210:=Tryz.zeroValue267
 t212:=Tryz.underlying279
 a212:=Tryz.isAgg279
 z212:=Tryz.sizeOf279
 v212:=Tryz.zeroValue279
 t213:=Tryz.underlying280
 a213:=Tryz.isAgg280
 z213:=Tryz.sizeOf280
 t232:=Tryz.underlying284
 a232:=Tryz.isAgg284
 z232:=Tryz.sizeOf284
 v232:=Tryz.zeroValue284
 t233:=Tryz.underlying285
 a233:=Tryz.isAgg285
 z233:=Tryz.sizeOf285
 v233:=Tryz.zeroValue285
 g15:=by kernel_rfl
 g16:=by kernel_rfl
 g17:=by kernel_rfl
 g18:=by kernel_rfl
 g19:=by kernel_rfl
 t80:=Tryz.underlying223
 a80:=Tryz.isAgg223
 z80:=Tryz.sizeOf223
 v80:=Tryz.zeroValue223
 i0:=by kernel_rfl
 i2:=by kernel_rfl
 i3:=by kernel_rfl
 i4:=by kernel_rfl
 i5:=by kernel_rfl
 i9:=by kernel_rfl
 i20:=by kernel_rfl
 i21:=by kernel_rfl
 i37:=by kernel_rfl
 i46:=by kernel_rfl
 i51:=by kernel_rfl
 i53:=by kernel_rfl
 i75:=by kernel_rfl
 i76:=by kernel_rfl
 i80:=by kernel_rfl
 i85:=by kernel_rfl
 i127:=by kernel_rfl
 i143:=by kernel_rfl
 i145:=by kernel_rfl
 i167:=by kernel_rfl
 i168:=by kernel_rfl
 i171:=by kernel_rfl
 i173:=by kernel_rfl
 i175:=by kernel_rfl
 i210:=by kernel_rfl
 i212:=by kernel_rfl
 i232:=by kernel_rfl
 i233:=by kernel_rfl
 m15:=by kernel_rfl
 m16:=by kernel_rfl
 m17:=by kernel_rfl
 m18:=by kernel_rfl
 m19:=by kernel_rfl
 c0:=by kernel_rfl
 c2:=by kernel_rfl
 c3:=by kernel_rfl
 c4:=by kernel_rfl
 c5:=by kernel_rfl
 c9:=by kernel_rfl
 c20:=by kernel_rfl
 c21:=by kernel_rfl
 c37:=by kernel_rfl
 c46:=by kernel_rfl
 c51:=by kernel_rfl
 c53:=by kernel_rfl
 c75:=by kernel_rfl
 c76:=by kernel_rfl
 c80:=by kernel_rfl
 c85:=by kernel_rfl
 c127:=by kernel_rfl
 c143:=by kernel_rfl
 c145:=by kernel_rfl
 c167:=by kernel_rfl
 c168:=by kernel_rfl
 c171:=by kernel_rfl
 c173:=by kernel_rfl
 c175:=by kernel_rfl
 c210:=by kernel_rfl
 c212:=by kernel_rfl
 c213:=by kernel_rfl
 c232:=by kernel_rfl
 c233:=by kernel_rfl }
def Tryz.lays145_ren:Go.Shelf.Ren:=⟨fun|145=>203|220=>212|219=>219|217=>225|225=>226|224=>227|267=>228|266=>235|314=>236|n=>n,fun|9=>9|4=>4|59=>230|3=>3|5=>5|46=>252|146=>261|51=>260|n=>n,fun|1=>0|n=>n⟩
theorem Tryz.lays145:Go.Proofs.Lays.n145 Tryz.prog Tryz.lays145_ren:={
 mixed:=by kernel_rfl
 f145:=Tryz.func203.trans (congrArg some (by kernel_rfl))
 f217:=Tryz.func225.trans (congrArg some (by kernel_rfl))
 f219:=Tryz.func219.trans (congrArg some (by kernel_rfl))
 f220:=Tryz.func212.trans (congrArg some (by kernel_rfl))
 f224:=Tryz.func227.trans (congrArg some (by kernel_rfl))
 f225:=Tryz.func226.trans (congrArg some (by kernel_rfl))
 f266:=Tryz.func235.trans (congrArg some (by kernel_rfl))
 f267:=Tryz.func228.trans (congrArg some (by kernel_rfl))
 f314:=Tryz.func236.trans (congrArg some (by kernel_rfl))
 t3:=Tryz.underlying3
 a3:=Tryz.isAgg3
 z3:=Tryz.sizeOf3
 v3:=Tryz.zeroValue3
 t4:=Tryz.underlying4
 a4:=Tryz.isAgg4
 z4:=Tryz.sizeOf4
 v4:=Tryz.zeroValue4
 t5:=Tryz.underlying5
 a5:=Tryz.isAgg5
 z5:=Tryz.sizeOf5
 v5:=Tryz.zeroValue5
 t9:=Tryz.underlying9
 a9:=Tryz.isAgg9
 z9:=Tryz.sizeOf9
 v9:=Tryz.zeroValue9
 t46:=Tryz.underlying252
 a46:=Tryz.isAgg252
 z46:=Tryz.sizeOf252
 v46:=Tryz.zeroValue252
 t51:=Tryz.underlying260
 a51:=Tryz.isAgg260
 z51:=Tryz.sizeOf260
 v51:=Tryz.zeroValue260
 t59:=Tryz.underlying230
 a59:=Tryz.isAgg230
 z59:=Tryz.sizeOf230
 v59:=Tryz.zeroValue230
 t146:=Tryz.underlying261
 a146:=Tryz.isAgg261
 z146:=Tryz.sizeOf261
 v146:=Tryz.zeroValue261
 g1:=by kernel_rfl }
open Go.RowKit Go.Lib in
theorem Tryz.strings_Cut (s sep:ByteArray) (m:Int) (w:World) (hs:s.size<4294967281) (hm:w.cell? ⟨0,0,none⟩=some (.int .i64 m)) :
 Calls Tryz.prog 203 #[.string s,.string sep] w λe w'=>e=.returned (.tuple #[.string ⟨(Lib.cut s.data.toList sep.data.toList).1.toArray⟩,.string ⟨(Lib.cut s.data.toList sep.data.toList).2.1.toArray⟩,.bool (Lib.cut s.data.toList sep.data.toList).2.2])∧∃n,w'=w.drewN n:=Any.strings_Cut Tryz.lays145 s sep m w hs hm
end Go.Proofs
namespace Go.Proofs.YtpppoklkijmeoaaGreatDoor.W
open Go Go.RowKit Go.Proofs Go.Proofs.YtpppoklkijmeoaaGreatDoor.VL
theorem qgt {P:Program} {t sz:Nat} (h:(P.info? t).map (λi=>(i.size,i.zero.map (·.cells.size),decide (i.bytes≤100000)))=some (sz,some sz,true)) :
 ∃i z,P.info? t=some i∧i.zero=some z∧i.size=sz∧z.cells.size=sz∧i.bytes≤100000:=by
 obtain⟨i,hi,h⟩:=Option.map_eq_some_iff.1 h
 simp only[Prod.mk.injEq,decide_eq_true_eq,zM] at h
 obtain⟨h1,⟨z,hz,h2⟩,h3⟩:=h
 exact⟨i,z,hi,hz,h1,h2,h3⟩
set_option maxRecDepth 100000
set_option maxHeartbeats 2000000
theorem m163:ClipM Tryz.prog 163:=by
 intro A n c W hc
 have u:Tryz.prog.underlying 164=some (.slice 169):=by kernel_rfl
 have u72:∀w,Sem.run Tryz.prog (underlying 164) w=.ok (TypeDesc.slice 169) w:=run_underlying u
 go_enter Tryz.func163,Tryz.ntmps163
 go_wp2
 go_ret
 exact⟨rfl,rfl⟩
theorem c163 (rows:List (List V)):FnR Tryz.prog G 163 [.sl 4 rows] (.sl 4 rows):=qp3 (by kernel_rfl) m163 4 rows
theorem m186:ClipM Tryz.prog 186:=by
 intro A n c W hc
 have u:Tryz.prog.underlying 190=some (.slice 52):=by kernel_rfl
 have u72:∀w,Sem.run Tryz.prog (underlying 190) w=.ok (TypeDesc.slice 52) w:=run_underlying u
 go_enter Tryz.func186,Tryz.ntmps186
 go_wp2
 go_ret
 exact⟨rfl,rfl⟩
theorem c186 (rows:List (List V)):FnR Tryz.prog G 186 [.sl 2 rows] (.sl 2 rows):=qp3 (by kernel_rfl) m186 2 rows
theorem m142:ClipM Tryz.prog 142:=by
 intro A n c W hc
 have u:Tryz.prog.underlying 32=some (.slice 132):=by kernel_rfl
 have u72:∀w,Sem.run Tryz.prog (underlying 32) w=.ok (TypeDesc.slice 132) w:=run_underlying u
 go_enter Tryz.func142,Tryz.ntmps142
 go_wp2
 go_ret
 exact⟨rfl,rfl⟩
theorem c142 (rows:List (List V)):FnR Tryz.prog G 142 [.sl 3 rows] (.sl 3 rows):=qp3 (by kernel_rfl) m142 3 rows
theorem o142 (rows:List (List V)) (n:Nat) (h:rows.length=n):FnP Tryz.prog G 142 0 [.arr 132 3 rows] [.own 0 n] (λr o=>r=.own 0 n∧o=[.arr 132 3 rows]):=qak (by kernel_rfl) m142 132 3 rows n h
theorem m164:ClipM Tryz.prog 164:=by
 intro A n c W hc
 have u:Tryz.prog.underlying 126=some (.slice 167):=by kernel_rfl
 have u72:∀w,Sem.run Tryz.prog (underlying 126) w=.ok (TypeDesc.slice 167) w:=run_underlying u
 go_enter Tryz.func164,Tryz.ntmps164
 go_wp2
 go_ret
 exact⟨rfl,rfl⟩
theorem o164 (rows:List (List V)) (n:Nat) (h:rows.length=n):FnP Tryz.prog G 164 0 [.arr 167 2 rows] [.own 0 n] (λr o=>r=.own 0 n∧o=[.arr 167 2 rows]):=qak (by kernel_rfl) m164 167 2 rows n h
theorem m60:ClipM Tryz.prog 60:=by
 intro A n c W hc
 have u:Tryz.prog.underlying 31=some (.slice 91):=by kernel_rfl
 have u72:∀w,Sem.run Tryz.prog (underlying 31) w=.ok (TypeDesc.slice 91) w:=run_underlying u
 go_enter Tryz.func60,Tryz.ntmps60
 go_wp2
 go_ret
 exact⟨rfl,rfl⟩
theorem o60 (rows:List (List V)) (n:Nat) (h:rows.length=n):FnP Tryz.prog G 60 0 [.arr 91 10 rows] [.own 0 n] (λr o=>r=.own 0 n∧o=[.arr 91 10 rows]):=qak (by kernel_rfl) m60 91 10 rows n h
theorem m63:ClipM Tryz.prog 63:=by
 intro A n c W hc
 have u:Tryz.prog.underlying 36=some (.slice 54):=by kernel_rfl
 have u72:∀w,Sem.run Tryz.prog (underlying 36) w=.ok (TypeDesc.slice 54) w:=run_underlying u
 go_enter Tryz.func63,Tryz.ntmps63
 go_wp2
 go_ret
 exact⟨rfl,rfl⟩
theorem o63 (rows:List (List V)) (n:Nat) (h:rows.length=n):FnP Tryz.prog G 63 0 [.arr 54 7 rows] [.own 0 n] (λr o=>r=.own 0 n∧o=[.arr 54 7 rows]):=qak (by kernel_rfl) m63 54 7 rows n h
theorem m143:CloneM Tryz.prog 143 132 3:=by
 have t27:Tryz.prog.underlying 32=some (.slice 132):=by kernel_rfl
 have u27:∀w,Sem.run Tryz.prog (underlying 32) w=.ok (TypeDesc.slice 132) w:=run_underlying t27
 have q27:∀(w:World) (a:Option Addr) (n c n' c':Nat),(binOp .eql 32 (.slice a n c) (.slice none n' c')).run Tryz.prog w=.ok (.bool a.isNone) w:=λw a n c n' c'=>Lib.run_eql_slice_nil w _ _ a n c n' c' t27
 obtain⟨i0,z0,hi,hz,hs,hzs,hb⟩:=qgt (P:=Tryz.prog) (t:=132) (sz:=3) (by kernel_rfl)
 refine⟨λn c W=>?_,λa n c us W h1 h2 h3 h4=>?_⟩
 ·go_enter Tryz.func143,Tryz.ntmps143
  go_wp2
  go_ret
  exact⟨rfl,rfl⟩
 ·go_enter Tryz.func143,Tryz.ntmps143
  go_wp2_with (at_builtin;refine wpList_append_own _ rfl _ _ 32 rfl W.heap.size 132 i0 z0 3 i0.bytes t27 hi hz hs rfl hzs (by decide) _ _ _ rfl (World.ownsRow_made W #[] 0 (Nat.le_refl _) (Nat.zero_le _) rfl) a n c us rfl h1 ?qc2 h3 ?qc4 ?qc5 ?qc6 ?_)
  case qc2=>intro j u hj;exact Lib.cell?_alloc_some _ (h2 j u hj)
  case qc4=>unfold maxLen;omega
  case qc5=>exact Nat.le_trans (Nat.mul_le_mul (show 0+n≤2000000 by omega) hb) (by decide)
  case qc6=>simp
  intro v' w1 hown hgrow hnil
  go_wp2
  go_ret
  refine⟨v',rfl,by simpa using hown, ?_⟩
  exact((Below.refl _ W).alloc (Nat.le_refl _) _).grown hgrow (by simp) (by intro k hk;simp[Value.ownBlock] at hk;omega)
theorem c143 (rows:List (List V)) (hr:rows.length≤2000000):FnP Tryz.prog G 143 0 [] [.sl 3 rows] (λr o=>r=.own 0 rows.length∧o=[.arr 132 3 rows]):=q7u (by kernel_rfl) m143 rows hr
theorem m165:CloneM Tryz.prog 165 167 2:=by
 have t27:Tryz.prog.underlying 126=some (.slice 167):=by kernel_rfl
 have u27:∀w,Sem.run Tryz.prog (underlying 126) w=.ok (TypeDesc.slice 167) w:=run_underlying t27
 have q27:∀(w:World) (a:Option Addr) (n c n' c':Nat),(binOp .eql 126 (.slice a n c) (.slice none n' c')).run Tryz.prog w=.ok (.bool a.isNone) w:=λw a n c n' c'=>Lib.run_eql_slice_nil w _ _ a n c n' c' t27
 obtain⟨i0,z0,hi,hz,hs,hzs,hb⟩:=qgt (P:=Tryz.prog) (t:=167) (sz:=2) (by kernel_rfl)
 refine⟨λn c W=>?_,λa n c us W h1 h2 h3 h4=>?_⟩
 ·go_enter Tryz.func165,Tryz.ntmps165
  go_wp2
  go_ret
  exact⟨rfl,rfl⟩
 ·go_enter Tryz.func165,Tryz.ntmps165
  go_wp2_with (at_builtin;refine wpList_append_own _ rfl _ _ 126 rfl W.heap.size 167 i0 z0 2 i0.bytes t27 hi hz hs rfl hzs (by decide) _ _ _ rfl (World.ownsRow_made W #[] 0 (Nat.le_refl _) (Nat.zero_le _) rfl) a n c us rfl h1 ?qc2 h3 ?qc4 ?qc5 ?qc6 ?_)
  case qc2=>intro j u hj;exact Lib.cell?_alloc_some _ (h2 j u hj)
  case qc4=>unfold maxLen;omega
  case qc5=>exact Nat.le_trans (Nat.mul_le_mul (show 0+n≤2000000 by omega) hb) (by decide)
  case qc6=>simp
  intro v' w1 hown hgrow hnil
  go_wp2
  go_ret
  refine⟨v',rfl,by simpa using hown, ?_⟩
  exact((Below.refl _ W).alloc (Nat.le_refl _) _).grown hgrow (by simp) (by intro k hk;simp[Value.ownBlock] at hk;omega)
theorem c165 (rows:List (List V)) (hr:rows.length≤2000000):FnP Tryz.prog G 165 0 [] [.sl 2 rows] (λr o=>r=.own 0 rows.length∧o=[.arr 167 2 rows]):=q7u (by kernel_rfl) m165 rows hr
theorem m61:CloneM Tryz.prog 61 91 10:=by
 have t27:Tryz.prog.underlying 31=some (.slice 91):=by kernel_rfl
 have u27:∀w,Sem.run Tryz.prog (underlying 31) w=.ok (TypeDesc.slice 91) w:=run_underlying t27
 have q27:∀(w:World) (a:Option Addr) (n c n' c':Nat),(binOp .eql 31 (.slice a n c) (.slice none n' c')).run Tryz.prog w=.ok (.bool a.isNone) w:=λw a n c n' c'=>Lib.run_eql_slice_nil w _ _ a n c n' c' t27
 obtain⟨i0,z0,hi,hz,hs,hzs,hb⟩:=qgt (P:=Tryz.prog) (t:=91) (sz:=10) (by kernel_rfl)
 refine⟨λn c W=>?_,λa n c us W h1 h2 h3 h4=>?_⟩
 ·go_enter Tryz.func61,Tryz.ntmps61
  go_wp2
  go_ret
  exact⟨rfl,rfl⟩
 ·go_enter Tryz.func61,Tryz.ntmps61
  go_wp2_with (at_builtin;refine wpList_append_own _ rfl _ _ 31 rfl W.heap.size 91 i0 z0 10 i0.bytes t27 hi hz hs rfl hzs (by decide) _ _ _ rfl (World.ownsRow_made W #[] 0 (Nat.le_refl _) (Nat.zero_le _) rfl) a n c us rfl h1 ?qc2 h3 ?qc4 ?qc5 ?qc6 ?_)
  case qc2=>intro j u hj;exact Lib.cell?_alloc_some _ (h2 j u hj)
  case qc4=>unfold maxLen;omega
  case qc5=>exact Nat.le_trans (Nat.mul_le_mul (show 0+n≤2000000 by omega) hb) (by decide)
  case qc6=>simp
  intro v' w1 hown hgrow hnil
  go_wp2
  go_ret
  refine⟨v',rfl,by simpa using hown, ?_⟩
  exact((Below.refl _ W).alloc (Nat.le_refl _) _).grown hgrow (by simp) (by intro k hk;simp[Value.ownBlock] at hk;omega)
theorem c61 (rows:List (List V)) (hr:rows.length≤2000000):FnP Tryz.prog G 61 0 [] [.sl 10 rows] (λr o=>r=.own 0 rows.length∧o=[.arr 91 10 rows]):=q7u (by kernel_rfl) m61 rows hr
theorem m64:CloneM Tryz.prog 64 54 7:=by
 have t27:Tryz.prog.underlying 36=some (.slice 54):=by kernel_rfl
 have u27:∀w,Sem.run Tryz.prog (underlying 36) w=.ok (TypeDesc.slice 54) w:=run_underlying t27
 have q27:∀(w:World) (a:Option Addr) (n c n' c':Nat),(binOp .eql 36 (.slice a n c) (.slice none n' c')).run Tryz.prog w=.ok (.bool a.isNone) w:=λw a n c n' c'=>Lib.run_eql_slice_nil w _ _ a n c n' c' t27
 obtain⟨i0,z0,hi,hz,hs,hzs,hb⟩:=qgt (P:=Tryz.prog) (t:=54) (sz:=7) (by kernel_rfl)
 refine⟨λn c W=>?_,λa n c us W h1 h2 h3 h4=>?_⟩
 ·go_enter Tryz.func64,Tryz.ntmps64
  go_wp2
  go_ret
  exact⟨rfl,rfl⟩
 ·go_enter Tryz.func64,Tryz.ntmps64
  go_wp2_with (at_builtin;refine wpList_append_own _ rfl _ _ 36 rfl W.heap.size 54 i0 z0 7 i0.bytes t27 hi hz hs rfl hzs (by decide) _ _ _ rfl (World.ownsRow_made W #[] 0 (Nat.le_refl _) (Nat.zero_le _) rfl) a n c us rfl h1 ?qc2 h3 ?qc4 ?qc5 ?qc6 ?_)
  case qc2=>intro j u hj;exact Lib.cell?_alloc_some _ (h2 j u hj)
  case qc4=>unfold maxLen;omega
  case qc5=>exact Nat.le_trans (Nat.mul_le_mul (show 0+n≤2000000 by omega) hb) (by decide)
  case qc6=>simp
  intro v' w1 hown hgrow hnil
  go_wp2
  go_ret
  refine⟨v',rfl,by simpa using hown, ?_⟩
  exact((Below.refl _ W).alloc (Nat.le_refl _) _).grown hgrow (by simp) (by intro k hk;simp[Value.ownBlock] at hk;omega)
theorem c64 (rows:List (List V)) (hr:rows.length≤2000000):FnP Tryz.prog G 64 0 [] [.sl 7 rows] (λr o=>r=.own 0 rows.length∧o=[.arr 54 7 rows]):=q7u (by kernel_rfl) m64 rows hr
end Go.Proofs.YtpppoklkijmeoaaGreatDoor.W
namespace Go.Proofs.YtpppoklkijmeoaaGreatDoor.W
open Go Go.RowKit Go.Proofs Go.Proofs.YtpppoklkijmeoaaGreatDoor.VL Go.Proofs.YtpppoklkijmeoaaGreatDoor.M
theorem qct {R:V→V→Prop}:∀ {a b:List V},b.length=a.length→(∀(j:Nat) v v',a[j]?=some v→b[j]?=some v'→R v v')→WkL R a b
 | [],[],_,_=>trivial
 | v::a,v'::b,hl,h=>⟨h 0 v v' rfl rfl,qct (by simpa using hl) λj x y hx hy=>h (j+1) x y (by simpa using hx) (by simpa using hy)⟩
 | [],_::_,hl,_=>by simp at hl
 | _::_,[],hl,_=>by simp at hl
def q7j (b:Nat) (f:Flw):List V:=[.int .i64 f.ins.a,.int .i64 f.ins.p,.int .i64 f.out.a,.int .i64 f.out.p,.str f.up.inn,.own b f.up.parts.length,.str f.down.inn,.own (b+1) f.down.parts.length]
def frow:Nat→List Flw→List V
 | _,[]=>[]
 | b,f::fs=>q7j b f++frow (b+2) fs
def q32:List Flw→List Hs
 | []=>[]
 | f::fs=>.arr 167 2 (f.up.parts.map Part.row)::.arr 167 2 (f.down.parts.map Part.row)::q32 fs
def q2x:Nat→List Flw→List (Nat×Hs)
 | _,[]=>[]
 | b,f::fs=>(b,.arr 167 2 (f.up.parts.map Part.row))::(b+1,.arr 167 2 (f.down.parts.map Part.row))::q2x (b+2) fs
def qbd:Nat→List Flw→List Nat
 | _,[]=>[]
 | b,_::fs=>b::(b+1)::qbd (b+2) fs
theorem q3j (b:Nat) (f:Flw):(q7j b f).length=8:=rfl
theorem q0p:∀(b:Nat) (fs:List Flw),(frow b fs).length=8*fs.length
 | _,[]=>rfl
 | b,f::fs=>by rw[frow,zA,q3j,q0p,zC];omega
theorem q2u:∀(fs:List Flw),(q32 fs).length=2*fs.length
 | []=>rfl
 | f::fs=>by rw[q32,zC,zC,q2u,zC];omega
theorem qbb:∀(b:Nat) (fs:List Flw),(qbd b fs).length=2*fs.length
 | _,[]=>rfl
 | b,f::fs=>by rw[qbd,zC,zC,qbb,zC];omega
theorem qab:∀(b:Nat) (gs hs:List Flw),frow b (gs++hs)=frow b gs++frow (b+2*gs.length) hs
 | b,[],hs=>rfl
 | b,g::gs,hs=>by
   rw[List.cons_append,frow,frow,qab (b+2) gs hs,List.append_assoc,zC,show b+2+2*gs.length=b+2*(gs.length+1) by omega]
theorem q31:∀ {b:Nat} {fs:List Flw} {l:List (Nat×Hs)} {c:Nat},c<b∨b+2*fs.length≤c→q01 (q2x b fs++l) c=q01 l c
 | _,[],_,_,_=>rfl
 | b,f::fs,l,c,h=>by
   rw[zC] at h
   have n1:c≠b:=by omega
   have n2:c≠b+1:=by omega
   rw[q2x,List.cons_append,List.cons_append,q01,if_neg n1,q01,if_neg n2]
   exact q31 (by omega)
theorem qch:∀ {b:Nat} {fs:List Flw} {l:List (Nat×Hs)} {k:Nat} {f:Flw},fs[k]?=some f →
 q01 (q2x b fs++l) (b+2*k)=.arr 167 2 (f.up.parts.map Part.row)∧q01 (q2x b fs++l) (b+2*k+1)=.arr 167 2 (f.down.parts.map Part.row)
 | b,f::fs,l,0,g,h=>by
   simp only[List.getElem?_cons_zero,zS] at h
   subst h
   rw[q2x,List.cons_append,List.cons_append]
   constructor
   ·simp[q01]
   ·simp[q01]
 | b,f::fs,l,k+1,g,h=>by
   simp only[List.getElem?_cons_succ] at h
   have:=qch (b:=b+2) (l:=l) h
   have e1:b+2*(k+1)=b+2+2*k:=by omega
   have e2:b+2*(k+1)+1=b+2+2*k+1:=by omega
   rw[e2,e1,q2x,List.cons_append,List.cons_append,q01,if_neg (by omega),q01,if_neg (by omega),q01,if_neg (by omega),q01,if_neg (by omega)]
   exact this
 | _,[],_,_,_,h=>by simp at h
theorem q1q {b:Nat} {fs:List Flw} {c:Nat} (h:c<b∨b+2*fs.length≤c):q01 (q2x b fs) c=.fresh:=by
 have:=q31 (l:=[]) h
 rwa [List.append_nil] at this
theorem q3x (b:Nat) (fs:List Flw) (c:Nat):(c<b∨b+2*fs.length≤c)∨∃(k:Nat) (f:Flw),fs[k]?=some f∧(c=b+2*k∨c=b+2*k+1):=by
 by_cases h:c<b∨b+2*fs.length≤c
 ·exact .inl h
 ·have hk:(c - b) / 2<fs.length:=by omega
  exact .inr ⟨(c - b) / 2,fs[(c - b) / 2],zE hk,by omega⟩
theorem qae:∀ {b:Nat} {fs:List Flw} {k:Nat} {f:Flw} {j:Nat},fs[k]?=some f→j<8→(frow b fs)[k*8+j]?=(q7j (b+2*k) f)[j]?
 | b,f::fs,0,g,j,h,hj=>by
   simp only[List.getElem?_cons_zero,zS] at h
   subst h
   rw[frow,List.getElem?_append_left (by rw[q3j];omega)]
   simp
 | b,f::fs,k+1,g,j,h,hj=>by
   simp only[List.getElem?_cons_succ] at h
   rw[frow,List.getElem?_append_right (by rw[q3j];omega),q3j,show(k+1)*8+j - 8=k*8+j by omega,qae h hj,show b+2+2*k=b+2*(k+1) by omega]
 | _,[],_,_,_,h,_=>by simp at h
theorem qp9 {F:Nat→Prop} {h:Nat→Hs} {b:Nat} {fs:List Flw} (hh:∀(k:Nat) f,fs[k]?=some f→(h (b+2*k)=.arr 167 2 (f.up.parts.map Part.row)∧h (b+2*k+1)=.arr 167 2 (f.down.parts.map Part.row))∧F (b+2*k)∧F (b+2*k+1)) :
 FzR F h (frow b fs) 8 (fs.map Flw.row):=by
 refine⟨λr hr=>?_,λi r j v' hr hv=>?_⟩
 ·obtain⟨f,_,rfl⟩:=List.mem_map.1 hr
  rfl
 ·simp only[List.getElem?_map,zM] at hr
  obtain⟨f,hf,rfl⟩:=hr
  have hj:j<8:=by have:=(List.getElem?_eq_some_iff.1 hv).1;simpa[Flw.row] using this
  obtain⟨⟨h1,h2⟩,h3,h4⟩:=hh i f hf
  rw[qae hf hj]
  match j,hj,hv with
  | 0,_,hv=>cases hv;exact⟨_,rfl,.inl ⟨rfl,rfl⟩⟩
  | 1,_,hv=>cases hv;exact⟨_,rfl,.inl ⟨rfl,rfl⟩⟩
  | 2,_,hv=>cases hv;exact⟨_,rfl,.inl ⟨rfl,rfl⟩⟩
  | 3,_,hv=>cases hv;exact⟨_,rfl,.inl ⟨rfl,rfl⟩⟩
  | 4,_,hv=>cases hv;exact⟨_,rfl,.inl ⟨rfl,rfl⟩⟩
  | 5,_,hv=>cases hv;exact⟨_,rfl,.inr ⟨_,_,_,_,rfl,rfl,⟨_,h1⟩,by simp,h3⟩⟩
  | 6,_,hv=>cases hv;exact⟨_,rfl,.inl ⟨rfl,rfl⟩⟩
  | 7,_,hv=>cases hv;exact⟨_,rfl,.inr ⟨_,_,_,_,rfl,rfl,⟨_,h2⟩,by simp,h4⟩⟩
theorem qdx {F:Nat→Prop} {f:Nat→Nat} {h h':Nat→Hs} {b b':Nat} {g:Flw} (h1:f b'=b) (h2:f (b'+1)=b+1) (h3:h' b'≠.fresh) (h4:h' (b'+1)≠.fresh) {j:Nat} {v v':V} (hv:(q7j b g)[j]?=some v) (hv':(q7j b' g)[j]?=some v'):Wk1 F f h h' v v':=by
 have hj:j<8:=(List.getElem?_eq_some_iff.1 hv).1
 match j,hj,hv,hv' with
 | 0,_,hv,hv'=>cases hv;cases hv';simp[Wk1,Wk0]
 | 1,_,hv,hv'=>cases hv;cases hv';simp[Wk1,Wk0]
 | 2,_,hv,hv'=>cases hv;cases hv';simp[Wk1,Wk0]
 | 3,_,hv,hv'=>cases hv;cases hv';simp[Wk1,Wk0]
 | 4,_,hv,hv'=>cases hv;cases hv';simp[Wk1,Wk0]
 | 5,_,hv,hv'=>cases hv;cases hv';exact⟨h1,rfl,h3⟩
 | 6,_,hv,hv'=>cases hv;cases hv';simp[Wk1,Wk0]
 | 7,_,hv,hv'=>cases hv;cases hv';exact⟨h2,rfl,h4⟩
theorem q2r {F:Nat→Prop} {f:Nat→Nat} {h h':Nat→Hs} {b b':Nat} {fs:List Flw} (hf:∀j,j<2*fs.length→f (b'+j)=b+j∧h' (b'+j)≠.fresh) {j:Nat} {v v':V} (hv:(frow b fs)[j]?=some v) (hv':(frow b' fs)[j]?=some v'):Wk1 F f h h' v v':=by
 have hj:j<8*fs.length:=by rw[←q0p b];exact(List.getElem?_eq_some_iff.1 hv).1
 have hk:j / 8<fs.length:=by omega
 have e:j=j / 8*8+j % 8:=by omega
 have hg:=zE hk
 rw[e,qae hg (by omega)] at hv hv'
 obtain⟨a1,a2⟩:=hf (2*(j / 8)) (by omega)
 obtain⟨a3,a4⟩:=hf (2*(j / 8)+1) (by omega)
 exact qdx a1 (by rw[Nat.add_assoc,a3,Nat.add_assoc]) a2 (by rw[Nat.add_assoc];exact a4) hv hv'
theorem q35:∀(k:Nat) (fs:List Flw),q11 k (q32 fs)=q2x k fs
 | _,[]=>rfl
 | k,f::fs=>by rw[q32,q11,q11,q35,q2x]
theorem qb3:∀ {g:Nat→Nat} {k b:Nat} {fs:List Flw},(∀j,j<2*fs.length→g (k+j)=b+j)→q67 g k (q32 fs)=q2x b fs
 | _,_,_,[],_=>rfl
 | g,k,b,f::fs,h=>by
   have h0:=h 0 (by rw[zC];omega)
   have h1:=h 1 (by rw[zC];omega)
   rw[q32,q67,q67,qb3 (b:=b+2) (λj hj=>by have:=h (j+2) (by rw[zC];omega);rw[show k+1+1+j=k+(j+2) by omega,this];omega),q2x,h1]
   rw[Nat.add_zero,Nat.add_zero] at h0
   rw[h0]
   rfl
theorem qda:∀ {g:Nat→Nat} {k b:Nat} {fs:List Flw},(∀j,j<2*fs.length→g (k+j)=b+j)→(frow k fs).map (V.rn1 g)=frow b fs
 | _,_,_,[],_=>rfl
 | g,k,b,f::fs,h=>by
   have h0:=h 0 (by rw[zC];omega)
   have h1:=h 1 (by rw[zC];omega)
   rw[frow,List.map_append,qda (b:=b+2) (λj hj=>by have:=h (j+2) (by rw[zC];omega);rw[show k+2+j=k+(j+2) by omega,this];omega),frow]
   rw[Nat.add_zero,Nat.add_zero] at h0
   simp[q7j,V.rn1,V.rn0,h0,h1]
theorem q9v:∀(b:Nat) (fs:List Flw),(frow b fs).all V.plain1=true
 | _,[]=>rfl
 | b,f::fs=>by rw[frow,List.all_append,q9v];simp[q7j,V.plain1,V.plain0]
theorem q99:∀(fs:List Flw) (s:Hs),s∈q32 fs→s.plain=true
 | f::fs,s,h=>by
   rw[q32] at h
   rcases List.mem_cons.1 h with rfl|h
   ·simp[Hs.plain,Part.row,V.plain0]
   rcases List.mem_cons.1 h with rfl|h
   ·simp[Hs.plain,Part.row,V.plain0]
   ·exact q99 fs s h
theorem q7q:∀ {b:Nat} {fs:List Flw} {j:Nat},j<2*fs.length→(qbd b fs)[j]?=some (b+j)
 | b,f::fs,0,_=>by rw[qbd];simp
 | b,f::fs,1,_=>by rw[qbd];simp
 | b,f::fs,j+2,h=>by
   rw[zC] at h
   rw[qbd,List.getElem?_cons_succ,List.getElem?_cons_succ,q7q (by omega)]
   congr 1;omega
 | _,[],_,h=>by simp at h
theorem q7p {b:Nat} {fs:List Flw} {c:Nat}:c∈qbd b fs↔b≤c∧c<b+2*fs.length:=by
 constructor
 ·intro h
  obtain⟨j,hj⟩:=List.getElem?_of_mem h
  have hl:j<2*fs.length:=by rw[←qbb b];exact(List.getElem?_eq_some_iff.1 hj).1
  rw[q7q hl] at hj
  cases hj
  omega
 ·rintro⟨h1,h2⟩
  exact List.mem_of_getElem? (i:=c - b) (by rw[q7q (by omega)];congr 1;omega)
theorem q9e:∀(b:Nat) (fs:List Flw),(qbd b fs).Nodup
 | _,[]=>List.nodup_nil
 | b,f::fs=>by
   rw[qbd,List.nodup_cons,List.nodup_cons]
   refine⟨λh=>?_,λh=>?_,q9e _ _⟩
   ·rcases List.mem_cons.1 h with h|h
    ·omega
    ·have:=q7p.1 h;omega
   ·have:=q7p.1 h;omega
theorem q6k {l:List (Nat×Hs)} {B c:Nat} (h:(l.all λp=>decide (p.1<B))=true) (hc:B≤c):q01 l c=.fresh:=by
 induction l with
 | nil=>rfl
 | cons p l ih =>
   simp only[List.all_cons,Bool.and_eq_true,decide_eq_true_eq] at h
   obtain⟨k,s⟩:=p
   have hk:c≠k:=by have:=h.1;simp only at this;omega
   rw[q01,if_neg hk]
   exact ih h.2
theorem q08 {b:Nat} {fs:List Flw} {l:List (Nat×Hs)} {c:Nat} (h:c<b):q01 (q2x b fs++l) c=q01 l c:=q31 (.inl h)
theorem q02 {b:Nat} {fs:List Flw} {c:Nat} (h:c<b):q01 (q2x b fs) c=.fresh:=q1q (.inl h)
theorem q0z (dd k:Nat) (fs:List Flw):q67 (bk [] 0 dd) k (q32 fs)=q2x (100000+100*dd+k) fs:=qb3 λj _=>by rw[qgs (Nat.zero_le _)];omega
theorem q1f (dd k:Nat) (fs:List Flw):(frow k fs).map (V.rn1 (bk [] 0 dd))=frow (100000+100*dd+k) fs:=qda λj _=>by rw[qgs (Nat.zero_le _)];omega
theorem q7y {O O':List Hs} {c:Nat} (h:c<O.length):chH (O++O') c=chH O c:=by simp[chH,List.getElem?_append_left h]
theorem q80 {O O':List Hs} {c:Nat} (h:O.length≤c):chH (O++O') c=chH O' (c - O.length):=by simp[chH,List.getElem?_append_right h]
theorem q8w (fs:List Flw) (c:Nat):chH (q32 fs) c=q01 (q2x 0 fs) c:=by rw[q4k,q35]
theorem q3d {fs:List Flw} {k:Nat} {f:Flw} (h:fs[k]?=some f):chH (q32 fs) (2*k)=.arr 167 2 (f.up.parts.map Part.row)∧chH (q32 fs) (2*k+1)=.arr 167 2 (f.down.parts.map Part.row):=by
 have:=qch (b:=0) (l:=[]) h
 rw[List.append_nil,zZ] at this
 rw[q8w,q8w]
 exact this
theorem q3p {fs:List Flw} {j:Nat} (h:j<2*fs.length):(chH (q32 fs) j).live=true:=by
 have hk:j / 2<fs.length:=by omega
 obtain⟨a,b⟩:=q3d (zE hk)
 rcases(show j=2*(j / 2)∨j=2*(j / 2)+1 by omega) with e|e
 ·rw[e,a];rfl
 ·rw[e,b];rfl
def FamAt (h:Nat→Hs) (b:Nat) (fs:List Flw):Prop:=∀(k:Nat) f,fs[k]?=some f→h (b+2*k)=.arr 167 2 (f.up.parts.map Part.row)∧h (b+2*k+1)=.arr 167 2 (f.down.parts.map Part.row)
theorem q21 (b:Nat) (fs:List Flw) (l:List (Nat×Hs)):FamAt (q01 (q2x b fs++l)) b fs:=λ_ _ h=>qch h
theorem q0s (b:Nat) (fs:List Flw):FamAt (q01 (q2x b fs)) b fs:=λ_ _ h=>by have:=qch (b:=b) (l:=[]) h;rwa [List.append_nil] at this
theorem q0n {b:Nat} {fs:List Flw} {k:Nat} {s:Hs} {l:List (Nat×Hs)} (hk:k<b∨b+2*fs.length≤k) (h:FamAt (q01 l) b fs):FamAt (q01 ((k,s)::l)) b fs:=λj f hf=>by
 have hj:=(List.getElem?_eq_some_iff.1 hf).1
 obtain⟨a,c⟩:=h j f hf
 refine⟨?_, ?_⟩
 ·rw[q01,if_neg (by omega)];exact a
 ·rw[q01,if_neg (by omega)];exact c
theorem q6l {b b':Nat} {fs gs:List Flw} {l:List (Nat×Hs)} (hk:b+2*fs.length≤b'∨b'+2*gs.length≤b) (h:FamAt (q01 l) b fs):FamAt (q01 (q2x b' gs++l)) b fs:=λj f hf=>by
 have hj:=(List.getElem?_eq_some_iff.1 hf).1
 obtain⟨a,c⟩:=h j f hf
 refine⟨?_, ?_⟩
 ·rw[q31 (by omega)];exact a
 ·rw[q31 (by omega)];exact c
theorem FamAt.live {h:Nat→Hs} {b:Nat} {fs:List Flw} (hf:FamAt h b fs) {j:Nat} (hj:j<2*fs.length):(h (b+j)).live=true:=by
 have hk:j / 2<fs.length:=by omega
 obtain⟨a,c⟩:=hf _ _ (zE hk)
 rcases(show j=2*(j / 2)∨j=2*(j / 2)+1 by omega) with e|e
 ·rw[e,a];rfl
 ·rw[e,←Nat.add_assoc,c];rfl
theorem FamAt.ne {h:Nat→Hs} {b:Nat} {fs:List Flw} (hf:FamAt h b fs) {j:Nat} (hj:j<2*fs.length):h (b+j)≠.fresh:=λe=>by have:=hf.live hj;rw[e] at this;cases this
theorem q8o {rs:List RV} {post:V→List Hs→Prop} {l:List (Nat×V)} {m:List (Nat×Hs)} (k b:Nat) {gs:List Flw} (res:V) (O:List Hs) (fs:List (Nat×Nat)) (hk:O.length=k)
 (hv:qb6 (qgc ⟨q0e l,q01 m⟩ rs) λv=>∀(F:Nat→Prop) f h',(∀c,c<k→f c=q0f fs c)→(∀c,c<k→h' c=chH O c)→Wk F f (q01 m) h' v res) (hp:post res (O++q32 gs))
 (hO:∀c,c<k→∀(F:Nat→Prop) f h',(∀c,c<k→f c=q0f fs c)→(∀c,c<k→h' c=chH O c)→(∀j,j<2*gs.length→f (k+j)=b+j∧h' (k+j)≠.fresh)→WkH F f (q01 m) h' (q01 m (q0f fs c)) (chH O c))
 (hfam:FamAt (q01 m) b gs) (hinj:((List.range k).map (q0f fs)).Nodup) (hlt:∀c,c<k→q0f fs c<b∨b+2*gs.length≤q0f fs c):q6f rs 0 post .ret ⟨q0e l,q01 m⟩:=by
 obtain⟨v,hv1,hw⟩:=q2k hv
 let f:Nat→Nat:=λc=>if c<k then q0f fs c else b+(c - k)
 have f1:∀c,c<k→f c=q0f fs c:=λc hc=>if_pos hc
 have f2:∀j,f (k+j)=b+j:=λj=>by simp only[f];rw[if_neg (by omega)];omega
 have h1:∀c,c<k→chH (O++q32 gs) c=chH O c:=λc hc=>q7y (by omega)
 have h2:∀j,chH (O++q32 gs) (k+j)=chH (q32 gs) j:=λj=>by rw[q80 (by omega)];congr 1;omega
 have h3:∀j,j<2*gs.length→f (k+j)=b+j∧chH (O++q32 gs) (k+j)≠.fresh:=λj hj=>⟨f2 j,by rw[h2];intro e;have:=q3p hj;rw[e] at this;cases this⟩
 have lv:∀x,(chH (O++q32 gs) x).live=true→x<k∨∃j,j<2*gs.length∧x=k+j:=λx hx=>by
  by_cases hxk:x<k
  ·exact .inl hxk
  ·refine .inr ⟨x - k, ?_,by omega⟩
   obtain⟨j,rfl⟩:∃j,x=k+j:=⟨x - k,by omega⟩
   rw[h2,q8w] at hx
   by_cases hj:j<2*gs.length
   ·omega
   ·rw[q1q (.inr (by omega))] at hx;cases hx
 have inj0:∀x y,x<k→y<k→q0f fs x=q0f fs y→x=y:=λx y hx hy h=>by
  have e1:((List.range k).map (q0f fs))[x]?=some (q0f fs x):=by simp[hx]
  have e2:((List.range k).map (q0f fs))[y]?=some (q0f fs y):=by simp[hy]
  have l1:x<((List.range k).map (q0f fs)).length:=by simp[hx]
  have l2:y<((List.range k).map (q0f fs)).length:=by simp[hy]
  rw[zE l1] at e1
  rw[zE l2] at e2
  exact(List.getElem_inj hinj).1 (by rw[Option.some.inj e1,Option.some.inj e2,h])
 refine⟨v,res,O++q32 gs,f,hv1,hp,hw _ _ _ f1 h1,λc=>?_,λx y hx hy hxy=>?_,λi hi=>absurd hi (Nat.not_lt_zero _)⟩
 ·by_cases hc:c<k
  ·have:=hO c hc (NoN f (chH (O++q32 gs))) f (chH (O++q32 gs)) f1 h1 h3
   rw[h1 c hc]
   simp only[f1 c hc]
   exact this
  ·obtain⟨j,rfl⟩:∃j,c=k+j:=⟨c - k,by omega⟩
   rw[h2]
   simp only[f2]
   rcases q3x 0 gs j with ho|⟨q,g,hg,e⟩
   ·rw[q8w,q1q ho]
    cases q01 m (b+j)<;>trivial
   ·obtain⟨a1,a2⟩:=q3d hg
    obtain⟨b1,b2⟩:=hfam q g hg
    rw[zZ] at e
    rcases e with rfl|rfl
    ·rw[a1,b1];exact⟨rfl,rfl,rfl⟩
    ·rw[a2,←Nat.add_assoc,b2];exact⟨rfl,rfl,rfl⟩
 ·rcases lv x hx with h|⟨j,hj,rfl⟩<;>rcases lv y hy with h'|⟨j',hj',rfl⟩
  ·rw[f1 x h,f1 y h'] at hxy;exact inj0 x y h h' hxy
  ·rw[f1 x h,f2] at hxy;have:=hlt x h;omega
  ·rw[f2,f1 y h'] at hxy;have:=hlt y h';omega
  ·rw[f2,f2] at hxy;omega
theorem qd8 {P:Program} {G:Glob} {f:FuncId} {k:Nat} {O O':List Hs} {gs gs':List Flw} {args:List V} {v:V} (F:FnP P G f (k+2*gs.length) (O++q32 gs) args λr o=>r=v∧o=O'++q32 gs') {vs:List V} {d:Option Nat} {st:St} {K:St→List Nat→List Nat→Prop}
 (b:Nat) (N0:List Nat) (dd:Nat) (hk0:N0.length=k) (hO:O.length=k) (hO':O'.length=k) (hl:gs'.length=gs.length)
 (hw:∀g h',(∀i,i<k→g i=nsF N0 i)→(∀i,i<k→h' i=chH O i)→WkL (Wk (λc=>c∈([]:List Nat)) g st.h h') vs args)
 (hc:∀i,i<k→(chH O i).live=true∧∀g h',(∀i,i<k→g i=nsF N0 i)→(∀i,i<k→h' i=chH O i)→(∀j,j<2*gs.length→g (k+j)=b+j∧h' (k+j)≠.fresh)→WkH (λc=>c∈([]:List Nat)) g st.h h' (st.h (nsF N0 i)) (chH O i))
 (hfam:FamAt st.h b gs) (hnd:N0.Nodup) (hout:∀n,n∈N0→n<b∨b+2*gs.length≤n) (hst:∀i,i<k→q0h (chH O i) (chH O' i)=true)
 (hsf:∀(j:Nat) x y,gs[j]?=some x→gs'[j]?=some y→x.up.parts.length≤y.up.parts.length∧x.down.parts.length≤y.down.parts.length)
 (hfr:∀i,i<k+2*gs.length→st.h (q3u dd i)=.fresh) (hv:v.nl=true)
 (hK:∀g tc tc',(∀i,i<k→g i=nsF N0 i)→(frow k gs').map (V.rn1 g)=frow b gs'→K (st.app d v (q67 g 0 O'++q2x b gs')) tc tc'):CallV P G f vs d st K:=by
 have nsl:(N0++qbd b gs).length=k+2*gs.length:=by rw[zA,qbb,hk0]
 have n1:∀i,i<k→nsF (N0++qbd b gs) i=nsF N0 i:=λi hi=>by simp[nsF,List.getElem?_append_left (by omega:i<N0.length)]
 have n2:∀j,j<2*gs.length→nsF (N0++qbd b gs) (k+j)=b+j:=λj hj=>by
  simp only[nsF]
  rw[List.getElem?_append_right (by omega),show k+j - N0.length=j by omega,q7q hj];rfl
 have h1:∀c,c<k→chH (O++q32 gs) c=chH O c:=λc hc=>q7y (by omega)
 have h2:∀j,chH (O++q32 gs) (k+j)=chH (q32 gs) j:=λj=>by rw[q80 (by omega)];congr 1;omega
 have h1':∀c,c<k→chH (O'++q32 gs') c=chH O' c:=λc hc=>q7y (by omega)
 have h2':∀j,chH (O'++q32 gs') (k+j)=chH (q32 gs') j:=λj=>by rw[q80 (by omega)];congr 1;omega
 have h3:∀j,j<2*gs.length→nsF (N0++qbd b gs) (k+j)=b+j∧chH (O++q32 gs) (k+j)≠.fresh:=λj hj=>⟨n2 j hj,by rw[h2];intro e;have:=q3p hj;rw[e] at this;cases this⟩
 have nslI:∀ {R:Nat→Hs→Prop} {ns:List Nat} {cs:List Hs},ns.length=cs.length→(∀i,i<cs.length→R (nsF ns i) (chH cs i))→NsL R ns cs:=by
  intro R ns
  induction ns with
  | nil=>intro cs h _;cases cs with
    | nil=>trivial
    | cons=>simp at h
  | cons n ns ih =>
    intro cs h hr
    cases cs with
    | nil=>simp at h
    | cons s cs =>
      refine⟨?_,ih (by simpa using h) λi hi=>?_⟩
      ·have:=hr 0 (by simp)
       rwa [qzq,qxz] at this
      ·have:=hr (i+1) (by simp;omega)
       rwa [qwa,qsw] at this
 refine q1k F (N0++qbd b gs) [] true dd (k+2*gs.length) (hw _ _ n1 h1) (nslI (by rw[nsl,zA,q2u,hO]) λi hi=>?_) (by rw[nsl];exact Nat.le_refl _) ?_ (λc hc=>by cases hc) ?_ hfr ?_
 ·rw[zA,q2u,hO] at hi
  by_cases hik:i<k
  ·rw[n1 i hik,h1 i hik]
   obtain⟨a,c⟩:=hc i hik
   exact⟨a,c _ _ n1 h1 h3⟩
  ·obtain⟨j,rfl⟩:∃j,i=k+j:=⟨i - k,by omega⟩
   have hj:j<2*gs.length:=by omega
   rw[n2 j hj,h2]
   refine⟨q3p hj, ?_⟩
   rcases q3x 0 gs j with ho|⟨q,g,hg,e⟩
   ·omega
   ·obtain⟨a1,a2⟩:=q3d hg
    obtain⟨b1,b2⟩:=hfam q g hg
    rw[zZ] at e
    rcases e with rfl|rfl
    ·rw[a1,b1];exact⟨rfl,rfl,rfl⟩
    ·rw[a2,←Nat.add_assoc,b2];exact⟨rfl,rfl,rfl⟩
 ·rw[List.nodup_append]
  refine⟨hnd,q9e _ _,λx hx y hy hxy=>?_⟩
  subst hxy
  have:=hout x hx
  have:=q7p.1 hy
  omega
 ·rintro _ _ ⟨rfl,rfl⟩
  have hlen:(O'++q32 gs').length=k+2*gs.length:=by rw[zA,q2u,hO',hl]
  refine⟨by rw[hlen];exact Nat.le_refl _,by rw[hlen];exact Nat.le_refl _,.inl rfl,λi hi=>?_⟩
  by_cases hik:i<k
  ·rw[h1 i hik,h1' i hik];exact hst i hik
  ·obtain⟨j,rfl⟩:∃j,i=k+j:=⟨i - k,by omega⟩
   rw[h2,h2']
   rcases q3x 0 gs j with ho|⟨q,g,hg,e⟩
   ·omega
   ·have hq:q<gs'.length:=by rw[hl];exact(List.getElem?_eq_some_iff.1 hg).1
    have hg':=zE hq
    obtain⟨a1,a2⟩:=q3d hg
    obtain⟨c1,c2⟩:=q3d hg'
    obtain⟨s1,s2⟩:=hsf q _ _ hg hg'
    rw[zZ] at e
    rcases e with rfl|rfl
    ·rw[a1,c1];simp[q0h,s1]
    ·rw[a2,c2];simp[q0h,s2]
 ·rintro _ _ ⟨rfl,rfl⟩
  have hdr:(N0++qbd b gs).drop (k+2*gs.length)=[]:=List.drop_eq_nil_of_le (by rw[nsl];exact Nat.le_refl _)
  have bk1:∀i,i<k→bk (N0++qbd b gs) (k+2*gs.length) dd i=nsF N0 i:=λi hi=>by rw[qrt (by omega),n1 i hi]
  have bk2:∀j,j<2*gs'.length→bk (N0++qbd b gs) (k+2*gs.length) dd (k+j)=b+j:=λj hj=>by rw[qrt (by omega),n2 j (by omega)]
  have hu:∀(X Y:List Hs) (g:Nat→Nat) (i:Nat),q67 g i (X++Y)=q67 g i X++q67 g (i+X.length) Y:=by
   intro X
   induction X with
   | nil=>intro Y g i;rfl
   | cons x X ih=>intro Y g i;rw[List.cons_append,q67,q67,ih,List.cons_append,zC,show i+1+X.length=i+(X.length+1) by omega]
  rw[hdr,qpo hv,hu,zZ,hO',qb3 bk2]
  simp only[cond_true,List.append_nil,q6o]
  exact hK _ _ _ bk1 (qda bk2)
theorem q0q {bef i tc wr}:chk bef i tc wr []=true:=rfl
theorem q0g {bef:List Nat} {i:Nat} {tc wr:List Nat} {e:Nat×List Nat×List Nat} {tr} (h1:(Nat.testBit (bef.getD i 0) e.1||(qbo e.2.2 tc&&qbo wr e.2.1))=true) (h2:chk bef i tc wr tr=true):chk bef i tc wr (e::tr)=true:=by
 unfold chk at *
 rw[List.all_cons,h1,h2];rfl
theorem qad {a b:List Nat} (h:∀x∈a,x∉b):qbo a b=true:=by
 unfold qbo
 rw[List.all_eq_true]
 intro x hx
 have:=h x hx
 simpa using this
theorem q51 {b:Bool} {dd m:Nat} {tc wr:List Nat} (h:((tc.all λx=>decide (x<100000+100*dd))&&wr.all λx=>decide (x<100000+100*dd))=true):(b||(qbo (q1c [] [] dd m) tc&&qbo wr (q1c [] [] dd m)))=true:=by
 rw[Bool.and_eq_true,List.all_eq_true,List.all_eq_true] at h
 have hm:∀x,x∈q1c [] [] dd m→100000+100*dd≤x:=λx hx=>by
  simp only[q1c,List.nil_append,List.mem_map] at hx
  obtain⟨j,_,rfl⟩:=hx
  simp only[q3u];omega
 rw[qad λx hx hx2=>by have:=hm x hx;have:=h.1 x hx2;simp only[decide_eq_true_eq] at this;omega,qad λx hx hx2=>by have:=hm x hx2;have:=h.2 x hx;simp only[decide_eq_true_eq] at this;omega]
 simp
def qcs:V→Bool
 | .undef|.int ..|.bool _|.str _|.nils=>true
 | _=>false
theorem qaq {F:Nat→Prop} {g:Nat→Nat} {h h':Nat→Hs} {v:V} (hv:qcs v=true):Wk1 F g h h' v v:=by
 cases v<;>first|(cases hv;done)|(simp[Wk1,Wk0];done)|trivial
theorem qdt {F:Nat→Prop} {g:Nat→Nat} {h h':Nat→Hs} {B x:Nat} {gs:List Flw} {f:Flw} {R:List V} (hg:∀j,j<2*gs.length→g (B+j)=B+j) (hx:g (B+2*gs.length)=x∧g (B+2*gs.length+1)=x+1)
 (hh:∀j,j<2*gs.length+2→h' (B+j)≠.fresh) (hR:∀v∈R,qcs v=true) {j:Nat} {v v':V} (hv:(frow B gs++(q7j x f++R))[j]?=some v) (hv':(frow B (gs++[f])++R)[j]?=some v'):Wk1 F g h h' v v':=by
 have e:frow B (gs++[f])++R=frow B gs++(q7j (B+2*gs.length) f++R):=by rw[qab,frow,frow,List.append_nil,List.append_assoc]
 rw[e] at hv'
 by_cases h1:j<(frow B gs).length
 ·rw[List.getElem?_append_left h1] at hv hv'
  exact q2r (λj hj=>⟨hg j hj,hh j (by omega)⟩) hv hv'
 ·rw[List.getElem?_append_right (by omega)] at hv hv'
  by_cases h2:j - (frow B gs).length<8
  ·rw[List.getElem?_append_left (by rw[q3j];omega)] at hv hv'
   exact qdx hx.1 hx.2 (hh _ (by omega)) (by rw[Nat.add_assoc];exact hh _ (by omega)) hv hv'
  ·rw[List.getElem?_append_right (by rw[q3j];omega),q3j] at hv hv'
   rw[hv] at hv'
   cases hv'
   exact qaq (hR _ (List.mem_of_getElem? hv))
theorem qnb {G:Glob} {l1 l2:List (Nat×V)} {m1 L2:List (Nat×Hs)} (B x:Nat) (gs:List Flw) (f:Flw)
 (ht:∀F g h',(∀c,c<B→g c=c)→(∀c,c<B→h' c=q01 L2 c)→WkS (Wk F g (q01 m1) h') (q0e l1) l2)
 (hL:∀F g h',(∀c,c<B→g c=c)→(∀c,c<B→h' c=q01 L2 c)→(∀j,j<2*gs.length→g (B+j)=B+j)→(g (B+2*gs.length)=x∧g (B+2*gs.length+1)=x+1)→(∀j,j<2*gs.length+2→h' (B+j)≠.fresh) →
   ∀p,p∈L2→WkH F g (q01 m1) h' (q01 m1 p.1) (q01 L2 p.1))
 (hfam:FamAt (q01 m1) B gs) (hx:q01 m1 x=.arr 167 2 (f.up.parts.map Part.row)∧q01 m1 (x+1)=.arr 167 2 (f.down.parts.map Part.row)) (hxB:x+1<B) (hxL:q01 L2 x=.fresh∧q01 L2 (x+1)=.fresh)
 (hLB:(L2.all λp=>decide (p.1<B))=true):St.le G 0 ⟨q0e l1,q01 m1⟩ ⟨q0e l2,q01 (L2++q2x B (gs++[f]))⟩:=by
 let g:Nat→Nat:=λc=>if c=B+2*gs.length then x else if c=B+2*gs.length+1 then x+1 else c
 have hlen:(gs++[f]).length=gs.length+1:=by simp
 have g1:∀c,c<B→g c=c:=λc hc=>by simp only[g];rw[if_neg (by omega),if_neg (by omega)]
 have g2:∀j,j<2*gs.length→g (B+j)=B+j:=λj hj=>by simp only[g];rw[if_neg (by omega),if_neg (by omega)]
 have g3:g (B+2*gs.length)=x∧g (B+2*gs.length+1)=x+1:=⟨by simp[g],by simp[g]⟩
 have app:∀c,(∀p,p∈L2→p.1≠c)→q01 (L2++q2x B (gs++[f])) c=q01 (q2x B (gs++[f])) c:=by
  intro c hc
  clear ht hL hxL hLB
  induction L2 with
  | nil=>rfl
  | cons p L2 ih =>
    obtain⟨k,s⟩:=p
    have:=hc (k,s) List.mem_cons_self
    rw[List.cons_append,q01,if_neg (Ne.symm this)]
    exact ih λp hp=>hc p (List.mem_cons_of_mem _ hp)
 have lo:∀c,c<B→q01 (L2++q2x B (gs++[f])) c=q01 L2 c:=by
  intro c hc
  clear ht hL hxL hLB app
  induction L2 with
  | nil=>exact q02 hc
  | cons p L2 ih =>
    obtain⟨k,s⟩:=p
    rw[List.cons_append,q01,q01]
    split
    ·rfl
    ·exact ih
 have keys:∀p,p∈L2→p.1<B:=λp hp=>by simpa using List.all_eq_true.1 hLB p hp
 have hi:∀c,B≤c→q01 (L2++q2x B (gs++[f])) c=q01 (q2x B (gs++[f])) c:=λc hc=>app c λp hp=>by have:=keys p hp;omega
 have fa:FamAt (q01 (L2++q2x B (gs++[f]))) B (gs++[f]):=λk f' hf=>by
  rw[hi _ (by omega),hi _ (by omega)]
  exact q0s B _ k f' hf
 have h3:∀j,j<2*gs.length+2→q01 (L2++q2x B (gs++[f])) (B+j)≠.fresh:=λj hj=>fa.ne (by omega)
 have mem:∀c,q01 L2 c≠.fresh→∃p,p∈L2∧p.1=c:=by
  intro c hc
  clear ht hL hxL hLB app lo keys hi fa h3
  induction L2 with
  | nil=>exact absurd rfl hc
  | cons p L2 ih =>
    obtain⟨k,s⟩:=p
    by_cases hk:c=k
    ·exact⟨_,List.mem_cons_self,hk.symm⟩
    ·rw[q01,if_neg hk] at hc
     obtain⟨p,h1,h2⟩:=ih hc
     exact⟨p,List.mem_cons_of_mem _ h1,h2⟩
 have lv:∀c,(q01 (L2++q2x B (gs++[f])) c).live=true→(c<B∧c≠x∧c≠x+1)∨∃j,j<2*gs.length+2∧c=B+j:=λc hc=>by
  by_cases hcB:c<B
  ·rw[lo c hcB] at hc
   refine .inl ⟨hcB,λe=>?_,λe=>?_⟩
   ·rw[e,hxL.1] at hc;cases hc
   ·rw[e,hxL.2] at hc;cases hc
  ·rw[hi c (by omega)] at hc
   by_cases hj:c<B+2*(gs++[f]).length
   ·exact .inr ⟨c - B,by omega,by omega⟩
   ·rw[q1q (.inr (by omega))] at hc;cases hc
 refine LeR.le (f:=g) ⟨λd=>?_,λc=>?_,λa b ha hb hab=>?_,λi hi=>absurd hi (Nat.not_lt_zero _)⟩
 ·exact(ht _ g _ g1 lo).all (λv=>by cases v<;>trivial) d
 ·show WkH (NoN g (q01 (L2++q2x B (gs++[f])))) g (q01 m1) (q01 (L2++q2x B (gs++[f]))) (q01 m1 (g c)) (q01 (L2++q2x B (gs++[f])) c)
  by_cases hc:c<B
  ·simp only[g1 c hc]
   rw[lo c hc]
   by_cases hf:q01 L2 c=.fresh
   ·rw[hf]
    cases q01 m1 c<;>trivial
   ·obtain⟨p,hp,rfl⟩:=mem c hf
    exact hL _ g _ g1 lo g2 g3 h3 p hp
  ·rcases q3x B (gs++[f]) c with ho|⟨q,f',hq,e⟩
   ·rw[hi c (by omega),q1q ho]
    cases q01 m1 (g c)<;>trivial
   ·obtain⟨b1,b2⟩:=fa q f' hq
    by_cases hql:q<gs.length
    ·rw[List.getElem?_append_left hql] at hq
     obtain⟨a1,a2⟩:=hfam q f' hq
     rcases e with rfl|rfl
     ·rw[b1,g2 _ (by omega),a1];exact⟨rfl,rfl,rfl⟩
     ·rw[b2,Nat.add_assoc,g2 _ (by omega),←Nat.add_assoc,a2];exact⟨rfl,rfl,rfl⟩
    ·have hqe:q=gs.length:=by have:=(List.getElem?_eq_some_iff.1 hq).1;omega
     subst hqe
     have:f'=f:=by simpa using hq.symm
     subst this
     rcases e with rfl|rfl
     ·rw[b1,g3.1,hx.1];exact⟨rfl,rfl,rfl⟩
     ·rw[b2,g3.2,hx.2];exact⟨rfl,rfl,rfl⟩
 ·have gi:∀j,j<2*gs.length+2→(j<2*gs.length∧g (B+j)=B+j)∨(j=2*gs.length∧g (B+j)=x)∨(j=2*gs.length+1∧g (B+j)=x+1):=λj hj=>by
   rcases(show j<2*gs.length∨j=2*gs.length∨j=2*gs.length+1 by omega) with h|h|h
   ·exact .inl ⟨h,g2 j h⟩
   ·subst h;exact .inr (.inl ⟨rfl,g3.1⟩)
   ·subst h;exact .inr (.inr ⟨rfl,g3.2⟩)
  rcases lv a ha with⟨h1,h2,h3⟩|⟨j,hj,rfl⟩<;>rcases lv b hb with⟨h1',h2',h3'⟩|⟨j',hj',rfl⟩
  ·rw[g1 a h1,g1 b h1'] at hab;exact hab
  ·rw[g1 a h1] at hab
   rcases gi j' hj' with⟨_,e⟩|⟨_,e⟩|⟨_,e⟩<;>rw[e] at hab<;>omega
  ·rw[g1 b h1'] at hab
   rcases gi j hj with⟨_,e⟩|⟨_,e⟩|⟨_,e⟩<;>rw[e] at hab<;>omega
  ·rcases gi j hj with⟨_,e⟩|⟨_,e⟩|⟨_,e⟩<;>rcases gi j' hj' with⟨_,e'⟩|⟨_,e'⟩|⟨_,e'⟩<;>rw[e,e'] at hab<;>omega
end Go.Proofs.YtpppoklkijmeoaaGreatDoor.W
namespace Go.Proofs.YtpppoklkijmeoaaGreatDoor.W
open Go Go.RowKit Go.Proofs Go.Proofs.YtpppoklkijmeoaaGreatDoor.VL
def qna:Go.Shelf.Ren:=⟨fun|166=>206|240=>215|276=>223|n=>n,fun|0=>0|3=>3|4=>4|9=>9|20=>20|37=>154|70=>232|72=>234|75=>236|164=>249|5=>5|80=>223|n=>n,fun|n=>n⟩
theorem qqk:Go.Proofs.Lays.n166 Tryz.prog qna:={
 mixed:=by kernel_rfl
 f166:=Tryz.func206.trans (congrArg some (by kernel_rfl))
 f240:=Tryz.func215.trans (congrArg some (by kernel_rfl))
 f276:=Tryz.func223.trans (congrArg some (by kernel_rfl))
 t0:=Tryz.underlying0
 a0:=Tryz.isAgg0
 z0:=Tryz.sizeOf0
 v0:=Tryz.zeroValue0
 t3:=Tryz.underlying3
 a3:=Tryz.isAgg3
 z3:=Tryz.sizeOf3
 v3:=Tryz.zeroValue3
 t4:=Tryz.underlying4
 a4:=Tryz.isAgg4
 z4:=Tryz.sizeOf4
 v4:=Tryz.zeroValue4
 t9:=Tryz.underlying9
 a9:=Tryz.isAgg9
 z9:=Tryz.sizeOf9
 v9:=Tryz.zeroValue9
 t20:=Tryz.underlying20
 a20:=Tryz.isAgg20
 z20:=Tryz.sizeOf20
 v20:=Tryz.zeroValue20
 t37:=Tryz.underlying154
 a37:=Tryz.isAgg154
 z37:=Tryz.sizeOf154
 v37:=Tryz.zeroValue154
 t70:=Tryz.underlying232
 a70:=Tryz.isAgg232
 z70:=Tryz.sizeOf232
 v70:=Tryz.zeroValue232
 t72:=Tryz.underlying234
 a72:=Tryz.isAgg234
 z72:=Tryz.sizeOf234
 v72:=Tryz.zeroValue234
 t75:=Tryz.underlying236
 a75:=Tryz.isAgg236
 z75:=Tryz.sizeOf236
 v75:=Tryz.zeroValue236
 t164:=Tryz.underlying249
 a164:=Tryz.isAgg249
 z164:=Tryz.sizeOf249
 v164:=Tryz.zeroValue249 }
theorem ql9:Builder.Extra Tryz.prog qna:={
 sizeBuilder:=by kernel_rfl
 liesBuilder:=by kernel_rfl
 t5:=Tryz.underlying5
 a5:=Tryz.isAgg5
 z5:=Tryz.sizeOf5
 v5:=Tryz.zeroValue5
 infoByte:=by kernel_rfl
 cellsByte:=by kernel_rfl
 sizeByte:=by kernel_rfl
 neB5:=by decide }
theorem m206 (B b:Nat) (bs:List Value) (s:ByteArray) (w:World) (h:Lib.IsBuilder 234 5 B b bs w) (hlen:bs.length+s.size≤140737488355328) (hBw:B≤w.heap.size) :
 Calls Tryz.prog 206 #[.pointer (some ⟨b,0,none⟩),.string s] w λe w'=>e=.returned (.tuple #[.int .i64 s.size,.nilIface])∧(Lib.BuilderAt 234 5 B b (.pointer (some ⟨b,0,none⟩)) (bs++Lib.strCells s) w'∧Below B w w') :=
 Any.Builder_WriteString qqk ql9 B b bs s w h hlen hBw
theorem qbi {T e:TypeId} {B b:Nat} {bs:List Value} {w w':World} (h:Lib.IsBuilder T e B b bs w) (hb:Below w.heap.size w w'):Lib.IsBuilder T e B b bs w':=by
 have hg:w.grownBy w' none:=⟨hb.os,hb.tape,hb.output,hb.size,λk hk _=>hb.block k hk⟩
 have key:∀p,Lib.BuilderAt T e B b p bs w→Lib.BuilderAt T e B b p bs w':=λp h=>by
  have hlt:=h.lt
  obtain⟨hB,v,h1,h2,h3⟩:=h
  refine⟨hB,v,(hb.block b hlt).trans h1,h2.kept hg ?_,h3⟩
  cases v.ownBlock with
  | none=>exact .inl rfl
  | some k=>exact .inr (by simp)
 exact h.imp (key _) (key _)
theorem hid {p:Prop} (h:p):Hid p:=h
set_option maxHeartbeats 2000000
set_option maxRecDepth 100000
theorem m192 (inn:ByteArray) (A:Option Addr) (n cap:Nat) (bk o:Nat) (hA:0<n→A=some ⟨bk,o,none⟩) (tx:List (List UInt8)) (w:World) (hn:tx.length=n) (hn2:n≤1000) (hbk:0<n→bk<w.heap.size) (hcap:n≤cap)
 (hc:∀(i:Nat) x,tx[i]?=some x→∃z:Int,w.cell? ⟨bk,o+(i*2+0),none⟩=some (.int .i64 z)∧w.cell? ⟨bk,o+(i*2+1),none⟩=some (.string ⟨x.toArray⟩)) (hlen:∀x,x∈tx→x.length≤1000) :
 Calls Tryz.prog 192 #[.agg #[.string inn,.slice A n cap]] w λe w'=>e=.returned (.string ⟨tx.flatten.toArray⟩)∧Below w.heap.size w w':=by
 have e61:∀args w,(callFunc 206 args).run Tryz.prog w=.ok (.enter 206 args) w:=enters_of Tryz.func206 (by kernel_rfl) rfl
 have e64:∀args w,(callFunc 207 args).run Tryz.prog w=.ok (.enter 207 args) w:=enters_of Tryz.func207 (by kernel_rfl) rfl
 have HA:=hid hA
 have Hc:=hid hc
 have Hl:=hid hlen
 have Hn:=hid hn
 clear hA hc hlen hn
 go_enter Tryz.func192,Tryz.ntmps192
 go_wp2_with fail
 go_loopw [9] (λi wr=>∃k:Nat,k≤n∧i=.int .i64 k∧Hid (Lib.IsBuilder 234 5 w.heap.size (w.heap.size+1) (Lib.byteCells (tx.take k).flatten) wr)∧Hid (Below w.heap.size w wr)) (λi _=>n - (intOf i).toNat)
 case atStart =>
  refine⟨0,Nat.zero_le _,rfl, ?_, ?_⟩
  ·refine .inl ⟨Nat.le_succ _,.slice none 0 0, ?_,World.ownsRow_nil _ _ _ _,by simp[Value.ownBlock]⟩
   have:=heap_alloc_new (w.alloc (Obj.cells #[Value.string inn,Value.slice A n cap] 128)) (Obj.cells #[Value.pointer none,Value.slice none 0 0] 234)
   simpa using this
  ·exact((Below.refl w.heap.size w).alloc (Nat.le_refl _) _).alloc (by simp) _
 case round =>
  obtain⟨k,hk,rfl,HB,HW⟩:=hrel
  have hBw:w.heap.size≤wr.heap.size:=HW.out.size
  by_cases hkn:k<n
  ·obtain⟨x,hx⟩:∃x,tx[k]?=some x:=⟨tx[k]'(by have:=Hn.out;omega),zE _⟩
   obtain rfl:=HA.out (by omega)
   obtain⟨z,hc0,hc1⟩:=Hc.out k x hx
   have hbk':bk<w.heap.size:=hbk (by omega)
   have hd0:wr.cell? ⟨bk,o+k*2,none⟩=some (.int .i64 z):=by
    rw[HW.out.cell (p:=⟨bk,o+k*2,none⟩) hbk']
    exact hc0
   have hd1:wr.cell? ⟨bk,o+k*2+1,none⟩=some (.string ⟨x.toArray⟩):=by
    rw[HW.out.cell (p:=⟨bk,o+k*2+1,none⟩) hbk']
    exact hc1
   have Hx:=hid hx
   clear hc0 hc1 hx
   have hxl:=Hl.out x (List.mem_of_getElem? Hx.out)
   have hfl:∀(l:List (List UInt8)) (m:Nat),(∀y,y∈l→y.length≤1000)→l.length≤m→l.flatten.length≤m*1000:=by
    intro l
    induction l with
    | nil=>intro m _ _;simp
    | cons a l ih =>
      intro m h1 h2
      obtain⟨m,rfl⟩:∃q,m=q+1:=⟨m - 1,by simp at h2;omega⟩
      have:=ih m (λy hy=>h1 y (List.mem_cons_of_mem _ hy)) (by simpa using h2)
      have:=h1 a List.mem_cons_self
      simp only[List.flatten_cons,zA]
      omega
   have hl1:=hfl (tx.take k) 1000 (λy hy=>Hl.out y (List.mem_of_mem_take hy)) (by simp;omega)
   have hnext:Lib.byteCells (tx.take k).flatten++Lib.strCells ⟨x.toArray⟩=Lib.byteCells (tx.take (k+1)).flatten:=by
    rw[List.take_add_one,Hx.out]
    simp[Lib.strCells_eq,Lib.byteCells_append]
   have Hn':=hid hnext
   have Hl1:=hid hl1
   have Hxl:=hid hxl
   clear hnext hl1 hxl hfl
   go_wp2_with fail
   have hbel:Below wr.heap.size wr (wr.alloc (Obj.cells #[Value.int IntKind.i64 z,Value.string { data:=x.toArray }] 167)):=(Below.refl _ _).alloc (Nat.le_refl _) _
   refine(m206 w.heap.size (w.heap.size+1) _ ⟨x.toArray⟩ _ (qbi HB.out hbel) ?hl (Nat.le_trans hBw hbel.size)).mono ?_
   case hl =>
    have h1:=Hl1.out
    have h2:=Hxl.out
    rw[Lib.byteCells_length]
    simp only[ByteArray.size,List.size_toArray]
    omega
   rintro e w3 ⟨rfl,h3,hb3⟩
   rw[Hn'.out] at h3
   have H3:=hid (Or.inr h3:Lib.IsBuilder 234 5 w.heap.size (w.heap.size+1) _ w3)
   have Hb3:=hid ((HW.out.trans (hbel.mono hBw)).trans hb3)
   clear h3 hb3 hbel
   go_wp2
   exact⟨⟨k+1,by omega,by go_num,H3,Hb3⟩,by simp[intOf];omega⟩
  ·obtain rfl:k=n:=by omega
   have hB':=HB.out
   rw[List.take_of_length_le (by rw[Hn.out];omega)] at hB'
   go_wp2_with fail
   refine(Tryz.Builder_String_any w.heap.size (w.heap.size+1) _ wr hB' hBw).mono ?_
   rintro e w5 ⟨rfl,hb5⟩
   have Hb5:=hid (HW.out.trans hb5)
   clear hb5 hB'
   go_wp2
   go_ret
   exact⟨rfl,Hb5.out⟩
theorem e192:entr Tryz.prog 192=true:=by kernel_rfl
theorem c192 (s:M.Strm) (h:M.StrB s):FnR Tryz.prog G 192 [.agg [.str s.inn,.sl 2 (s.parts.map M.Part.row)]] (.str (M.sOut s)) where
 en:=e192
 ne:=⟨_,_,rfl,rfl⟩
 run:=λW ρ ext us hg hlt hno hng r hargs=>by
  obtain⟨u,rfl,hd⟩:=qe8 hargs
  obtain⟨fs,rfl,hfl,hf⟩:=hd
  have hc:chH []=λ_=>.fresh:=by funext x;simp[chH]
  have fin:∀e (W':World),e=Ending.returned (.string (mkStr (M.sOut s)))→Below W.heap.size W W'→∃u res out ρ',e=.returned u∧(res=V.str (M.sOut s)∧out=[])∧RelH ⟨W,blocks ρ (chH []),ext,0,ρ⟩ ρ' (chH out) W' ∧
   Den W' (owns ⟨W,blocks ρ (chH []),ext,0,ρ⟩ ρ' (chH out)) ρ' (chH out) res u:=λe W' he hb=>by
   refine⟨_,_,[],λ_=>default,he,⟨rfl,rfl⟩,⟨hb.os,hb.tape,hb.output,hb.size,λb hb1 _=>hb.block b hb1,λc=>(by rw[hc];trivial),λc hl=>(by rw[hc] at hl;cases hl),λc c' hl=>(by rw[hc] at hl;cases hl),λi hi=>absurd hi (Nat.not_lt_zero _)⟩,Imm.str _⟩
  match fs,hfl with
  | [a,b],_ =>
    have ha:a=.string (mkStr s.inn):=q66 (hf 0 _ _ rfl rfl)
    subst ha
    have hb:Imm W _ (.sl 2 (s.parts.map M.Part.row)) b:=hf 1 _ _ rfl rfl
    have hout:(s.parts.map λp=>p.text).flatten=M.sOut s:=by simp[M.sOut,List.flatMap]
    have key:∀(A:Option Addr) (cap bk o:Nat),b=.slice A s.parts.length cap→s.parts.length≤cap→(0<s.parts.length→A=some ⟨bk,o,none⟩)→(0<s.parts.length→bk<W.heap.size) →
     (∀(i:Nat) x,(s.parts.map λp=>p.text)[i]?=some x→∃z:Int,W.cell? ⟨bk,o+(i*2+0),none⟩=some (.int .i64 z)∧W.cell? ⟨bk,o+(i*2+1),none⟩=some (.string ⟨x.toArray⟩)) →
     Calls Tryz.prog 192 #[.agg #[.string (mkStr s.inn),b]] W λe W'=>∃u res out ρ',e=.returned u∧(res=V.str (M.sOut s)∧out=[])∧RelH ⟨W,blocks ρ (chH []),ext,0,ρ⟩ ρ' (chH out) W' ∧
      Den W' (owns ⟨W,blocks ρ (chH []),ext,0,ρ⟩ ρ' (chH out)) ρ' (chH out) res u:=λA cap bk o hb hcap hA hbk hcells=>by
     subst hb
     refine(m192 (mkStr s.inn) A s.parts.length cap bk o hA (s.parts.map λp=>p.text) W (by simp) (by have:=h.2.1;omega) hbk hcap hcells (λx hx=>?_)).mono λe W' ⟨he,hb⟩=>fin e W' (by rw[he,hout];rfl) hb
     obtain⟨p,hp,rfl⟩:=List.mem_map.1 hx
     have:=h.2.2 p hp
     omega
    generalize hR:s.parts.map M.Part.row=R at hb
    have hRl:R.length=s.parts.length:=by rw[←hR];simp
    cases hb with
    | esl _ A cap =>
      have hz:s.parts.length=0:=by rw[←hRl];rfl
      refine key A cap 0 0 (by rw[hz]) (by omega) (λh=>by omega) (λh=>by omega) λi x hx=>?_
      have:=(List.getElem?_eq_some_iff.1 hx).1
      simp at this
      omega
    | sl _ _ blk off cap cs h1 h2 h3 h4 h5 h6 h7 =>
      refine key _ cap blk off (by rw[←hRl]) (by omega) (λ_=>rfl) (λ_=>h2) λi x hx=>?_
      obtain⟨p,hp,rfl⟩:∃p,s.parts[i]?=some p∧p.text=x:=by simpa using hx
      have hr:R[i]?=some (M.Part.row p):=by rw[←hR];simp[hp]
      have a0:=h6 i _ 0 _ hr rfl
      have a1:=h6 i _ 1 _ hr rfl
      have b0:=q52 (h7 i _ 0 _ hr rfl)
      have b1:=q66 (h7 i _ 1 _ hr rfl)
      rw[b0] at a0
      rw[b1] at a1
      exact⟨_,a0,a1⟩
theorem qa8 {P:Program} (w:World) (t e ty:TypeId) (z:Value) (ht:P.underlying t=some (.slice e)) (hv:∀w,(zeroValue e).run P w=.ok z w) (h1:∀u,u∈z.cells.toList→u.oneCell'=true) (b o c:Nat)
 (hc:∀j,j<z.cells.toList.length→(w.cell? ⟨b,o+j,none⟩).isSome=true) (hf:∀j,j<z.cells.toList.length→w.frozen? ⟨b,o+j,none⟩=false) :
 (Builtin.clear_ #[t] ty #[.slice (some ⟨b,o,none⟩) 1 c]).run P w=.ok (.tuple #[]) (w.setCells b o z.cells.toList):=by
 have hzc:(Builtin.zeroCells z.cells 1).toList=z.cells.toList:=by
  simp only[Builtin.zeroCells]
  apply List.ext_getElem
  ·simp
  ·intro i h1 h2
   simp at h1 h2 ⊢
   have e:i % z.cells.size=i:=Nat.mod_eq_of_lt h2
   simp[e,h2]
 have hst:=run_storeCells_cells (P:=P) b o z.cells.toList 0 w (by simpa using hc) (by simpa using hf) h1
 simp only[Nat.add_zero] at hst
 simp[Builtin.clear_,run_underlying ht,hv,hzc,hst]
set_option maxRecDepth 100000
set_option maxHeartbeats 4000000
theorem m124 (blk off cap n k j:Nat) (us:List Value) (w:World) (hl:us.length=n*7) (hcl:∀(t:Nat) u,us[t]?=some u→w.cell? ⟨blk,off+t,none⟩=some u) (hone:∀u,u∈us→u.oneCell'=true)
 (hfz:∀t,t<n*7→w.frozen? ⟨blk,off+t,none⟩=false) (hcap:n≤cap) (hk:k<n) (hj:j=k+1) :
 Calls Tryz.prog 124 #[.slice (some ⟨blk,off,none⟩) n cap,.int .i64 k,.int .i64 (j:Int)] w λe w'=>e=.returned (.slice (some ⟨blk,off,none⟩) (n - 1) cap) ∧
  w'=((w.drew.setCells blk (off+k*7) (us.drop (j*7))).setCells blk (off+(n - 1)*7) [.int .i64 0,.int .i64 0,.int .i64 0,.int .i64 0,.int .i64 0,.int .i64 0,.string ⟨#[]⟩]):=by
 have t27:Tryz.prog.underlying 36=some (.slice 54):=by kernel_rfl
 obtain⟨i0,z0,hi,hz,hs,hzs,hb⟩:=qgt (P:=Tryz.prog) (t:=54) (sz:=7) (by kernel_rfl)
 have hlt:k<j:=by omega
 obtain⟨news,hnews⟩:∃news,news=us.drop (j*7):=⟨_,rfl⟩
 have hlen:news.length=(n - j)*7:=by rw[hnews];simp;omega
 obtain⟨A,hA,hsrc⟩:∃A:Addr,(if cap=j then some (⟨blk,off,none⟩:Addr) else some ⟨blk,off+j*7,none⟩)=some A∧Hid (∀(t:Nat) u,news[t]?=some u→w.drew.cell? (A.add t)=some u):=by
  by_cases h:cap=j
  ·refine⟨⟨blk,off,none⟩,by simp[h],λt u hu=>?_⟩
   have h0:news.length=0:=by rw[hlen];omega
   rw[List.length_eq_zero_iff.1 h0] at hu
   simp at hu
  ·refine⟨⟨blk,off+j*7,none⟩,by simp[h],λt u hu=>?_⟩
   rw[hnews,List.getElem?_drop] at hu
   rw[Addr.add_lit,Nat.add_assoc]
   exact hcl _ u hu
 have s1:Hid (news.length=(n - j)*7):=hlen
 have s2:Hid (∀u∈news,u.oneCell'=true):=λu hu=>hone u (by rw[hnews] at hu;exact List.mem_of_mem_drop hu)
 have s3:Hid (∀t,t<news.length→(w.drew.cell? ⟨blk,off+k*7+t,none⟩).isSome=true∧w.drew.frozen? ⟨blk,off+k*7+t,none⟩=false):=by
  intro t ht
  rw[hlen] at ht
  have hlt:k*7+t<us.length:=by rw[hl];omega
  rw[Nat.add_assoc]
  refine⟨?_,hfz _ (by omega)⟩
  show(w.cell? _).isSome=true
  rw[hcl (k*7+t) _ (zE hlt)]
  rfl
 obtain⟨W1,hW1⟩:∃W1,W1=w.drew.setCells blk (off+k*7) news:=⟨_,rfl⟩
 have hz':∀w,(zeroValue 54).run Tryz.prog w=.ok (.agg #[.int .i64 0,.int .i64 0,.int .i64 0,.int .i64 0,.int .i64 0,.int .i64 0,.string ⟨#[]⟩]) w:=λw=>by kernel_rfl
 have hcl2:∀ty,(Builtin.clear_ #[36] ty #[.slice (some ⟨blk,off+(k+(n - j))*7,none⟩) (n - (k+(n - j))) (cap - (k+(n - j)))]).run Tryz.prog W1=.ok (.tuple #[]) (W1.setCells blk (off+(k+(n - j))*7) [.int .i64 0,.int .i64 0,.int .i64 0,.int .i64 0,.int .i64 0,.int .i64 0,.string ⟨#[]⟩]):=λty=>by
  rw[show n - (k+(n - j))=1 by omega]
  refine qa8 W1 _ _ ty _ t27 hz' (by simp[Value.cells,Value.oneCell']) blk _ _ (λj' hj'=>?_) (λj' hj'=>?_)
  ·have hlt:(n - 1)*7+j'<us.length:=by rw[hl];simp[Value.cells] at hj';omega
   have e:off+(k+(n - j))*7+j'=off+((n - 1)*7+j'):=by rw[show k+(n - j)=n - 1 by omega];omega
   rw[e,hW1,World.cell?_setCells_out _ _ _ _ _ (λ_ _=>.inr (by rw[hlen];simp only;omega))]
   show(w.cell? _).isSome=true
   rw[hcl _ _ (zE hlt)]
   rfl
  ·have e:off+(k+(n - j))*7+j'=off+((n - 1)*7+j'):=by rw[show k+(n - j)=n - 1 by omega];omega
   rw[e,hW1,World.frozen?_setCells]
   exact hfz _ (by simp[Value.cells] at hj';omega)
 have hW:Hid (W1=w.drew.setCells blk (off+k*7) news):=hW1
 have hkc:k≤cap:=by omega
 have hkc1:j≤cap:=by omega
 have hjn:j≤n:=by omega
 have hx:Hid (j=k+1∧news=us.drop (j*7)):=⟨hj,hnews⟩
 clear hW1 hnews hlen hcl hfz hone hj
 go_enter Tryz.func124,Tryz.ntmps124
 go_wp2_with fail
 go_region_law (refine step_append_room rfl (.tmp 22) (.tmp 25) 36 rfl 54 i0 7 t27 hi hs blk off k cap (by simp[Act.eval,Act.put]) A (n - j) (cap - j) news (by simp[Act.eval,Act.put,hA]) s1.out hsrc.out s2.out (by omega) s3.out ?_;rw[←hW.out])
 go_wp2
 go_ret
 have e2:k+(n - j)=n - 1:=by have:=hx.out.1;omega
 refine⟨by simp[e2],by rw[hW.out,hx.out.2,e2]⟩
theorem q74 {α β:Type} (f:α→β):∀(l:List α) (k:Nat),(l.map f).eraseIdx k=(l.eraseIdx k).map f
 | [],_=>rfl
 | _::_,0=>rfl
 | a::l,k+1=>by simp[q74 f l k]
def DelM (P:Program) (f:FuncId) (sz:Nat) (zr:List Value):Prop:=∀(blk off cap n k j:Nat) (us:List Value) (w:World),us.length=n*sz→(∀(t:Nat) u,us[t]?=some u→w.cell? ⟨blk,off+t,none⟩=some u)→(∀u,u∈us→u.oneCell'=true) →
 (∀t,t<n*sz→w.frozen? ⟨blk,off+t,none⟩=false)→n≤cap→k<n→j=k+1 →
 Calls P f #[.slice (some ⟨blk,off,none⟩) n cap,.int .i64 k,.int .i64 (j:Int)] w λe w'=>e=.returned (.slice (some ⟨blk,off,none⟩) (n - 1) cap)∧w'=((w.drew.setCells blk (off+k*sz) (us.drop (j*sz))).setCells blk (off+(n - 1)*sz) zr)
theorem qjd {w:World} {O:Nat→Prop} {ρ:Nat→VL.Loc} {h:Nat→Hs} {a b c:V} {us:List Value} (hargs:DenArgs w O ρ h [a,b,c] us):∃x y z,us=[x,y,z]∧Den w O ρ h a x∧Den w O ρ h b y∧Den w O ρ h c z:=by
 obtain⟨h1,h2⟩:=hargs
 match us,h1 with
 | [x,y,z],_=>exact⟨x,y,z,rfl,h2 0 _ _ rfl rfl,h2 1 _ _ rfl rfl,h2 2 _ _ rfl rfl⟩
set_option maxHeartbeats 400000
theorem qj5 {P:Program} {G:Glob} {f:FuncId} (hn:entr P f=true) {sz:Nat} {zr:List Value} (h:DelM P f sz zr) (hzr:zr.length=sz) (ty:Nat) (rows:List (List V)) (n k:Nat) (hrn:rows.length=n) (hk:k<n) :
 FnP P G f 0 [.arr ty sz rows] [.own 0 n,.int .i64 (k:Int),.int .i64 ((k:Int)+1)] (λr o=>r=.own 0 (n - 1)∧o=[.arr ty sz (rows.eraseIdx k)]) where
 en:=hn
 ne:=⟨_,_,rfl,rfl⟩
 run:=λW ρ ext us0 hg hlt hno hng r hargs=>by
  obtain⟨u,u1,u2,rfl,hd,hd1,hd2⟩:=qjd hargs
  have e1:=q52 hd1
  have e2:=q52 hd2
  subst e1 e2
  have h0:∀R,chH [Hs.arr ty sz R] 0=.arr ty sz R:=λ_=>rfl
  have h1:∀R c,c≠0→chH [Hs.arr ty sz R] c=.fresh:=λR c hc=>by
   match c,hc with
   | c+1,_=>simp[chH]
  have hl:∀R c,(chH [Hs.arr ty sz R] c).live=true→c=0:=λR c hc=>by
   by_cases h':c=0
   ·exact h'
   ·rw[h1 R c h'] at hc;cases hc
  have hl0:∀R,(chH [Hs.arr ty sz R] 0).live=true:=λR=>rfl
  have hd:u=(ρ 0).sl n:=by
   simp only[Den,Den2,Den1,Den0,h0] at hd
   exact hd
  subst hd
  have hch:=r.chunk 0
  rw[h0] at hch
  rcases hch with⟨_,e,_⟩|⟨hnil,cs,hcs,hsz,hcap,hrl,hrows⟩
  ·rw[e] at hrn;simp at hrn;omega
  have hlt0:(ρ 0).blk<W.heap.size:=q24 hcs
  have hown:owns ⟨W,blocks ρ (chH [.arr ty sz rows]),ext,0,ρ⟩ ρ (chH [.arr ty sz rows]) (ρ 0).blk:=.inr ⟨0,hl0 _,hnil,rfl⟩
  obtain⟨us,hu1,hu2,hu3,hu4⟩:=q42 (w:=W) (rows:=rows) (sz:=sz) (blk:=(ρ 0).blk) (off:=(ρ 0).off) hrl (λi x j y hx hy=>by
   obtain⟨z,hz1,hz2⟩:=hrows i x j y hx hy
   exact⟨z,q53 _ _ _ _ _ _ _ hcs hz1,hz2⟩)
  have hsl:(ρ 0).sl n=.slice (some ⟨(ρ 0).blk,(ρ 0).off,none⟩) n (ρ 0).cap:=by simp[VL.Loc.sl,VL.Loc.addr,hnil]
  rw[hrn] at hu1
  have hcell:∀(t:Nat) u,us[t]?=some u→W.cell? ⟨(ρ 0).blk,(ρ 0).off+t,none⟩=some u:=λt u hu=>by
   have:=hu2 t u hu
   rwa [Addr.add_lit] at this
  have run:=h (ρ 0).blk (ρ 0).off (ρ 0).cap n k (k+1) us W hu1 hcell hu3 (λt ht=>by simp[World.frozen?,hcs]) (by omega) hk rfl
  rw[hsl]
  have ecast:((k+1:Nat):Int)=(k:Int)+1:=by omega
  rw[ecast] at run
  refine run.mono λe w' ⟨he,hw⟩=>?_
  have hn1:(n - 1)*sz+sz=n*sz:=by rw[←Nat.succ_mul];congr 1;omega
  have hk1:(k+1)*sz=k*sz+sz:=Nat.succ_mul k sz
  have hkn:(k+1)*sz≤n*sz:=Nat.mul_le_mul_right _ hk
  have hcapn:n*sz≤(ρ 0).cap*sz:=Nat.mul_le_mul_right _ (by omega)
  have hdl:(us.drop ((k+1)*sz)).length=n*sz - (k+1)*sz:=by simp[hu1]
  obtain⟨a1,a2,a3,a4,a5⟩:=q13 (ρ 0).blk (us.drop ((k+1)*sz)) ((ρ 0).off+k*sz) W.drew
  obtain⟨b1,b2,b3,b4,b5⟩:=q13 (ρ 0).blk zr ((ρ 0).off+(n - 1)*sz) (W.drew.setCells (ρ 0).blk ((ρ 0).off+k*sz) (us.drop ((k+1)*sz)))
  obtain⟨c1,m1,m2,m3⟩:=q12 (ρ 0).blk ty (0,0) (us.drop ((k+1)*sz)) ((ρ 0).off+k*sz) W.drew cs hcs (by rw[hdl];omega)
  obtain⟨c2,n1,n2,n3⟩:=q12 (ρ 0).blk ty (0,0) zr ((ρ 0).off+(n - 1)*sz) _ c1 m1 (by rw[hzr,m2];omega)
  rw[←hw] at b1 b2 b3 b4 b5 n1
  have bel:∀b,b≠(ρ 0).blk→w'.heap[b]?=W.heap[b]?:=λb hb=>(b5 b hb).trans (a5 b hb)
  have hsize:w'.heap.size=W.heap.size:=b4.trans a4
  refine⟨_,_,_,ρ,he,⟨rfl,rfl⟩,⟨(b1.trans a1).trans r.os,(b2.trans a2).trans r.tape,(b3.trans a3).trans r.output,by rw[hsize];exact r.grow,λb hb1 hb2=>(bel b λhx=>hb2 ⟨0,hl0 _,by rw[hx];exact⟨hnil,rfl⟩⟩).trans (r.keep b hb1 hb2),λc=>?_,λc hc hnl=>?_,λc c' hc hc' _ _ _=>(hl _ c hc).trans (hl _ c' hc').symm,λi hi=>absurd hi (Nat.not_lt_zero _)⟩, ?_⟩
  ·by_cases hc:c=0
   ·subst hc
    rw[h0]
    refine .inr ⟨hnil,c2,n1,by rw[n2,m2];exact hsz,by rw[List.length_eraseIdx];split<;>omega,λx hx=>hrl x (List.mem_of_mem_eraseIdx hx),λi x j y hx hy=>?_⟩
    have hjs:j<sz:=by
     have:=hrl x (List.mem_of_mem_eraseIdx (List.mem_of_getElem? hx))
     have h2:=(List.getElem?_eq_some_iff.1 hy).1
     omega
    have him:i<n - 1:=by
     have:=(List.getElem?_eq_some_iff.1 hx).1
     rw[List.length_eraseIdx] at this
     split at this<;>omega
    have him2:(i+1)*sz≤(n - 1)*sz:=Nat.mul_le_mul_right _ him
    have hi1:(i+1)*sz=i*sz+sz:=Nat.succ_mul i sz
    have tail:∀q z,us[q*sz+j]?=some z→Imm W (owns ⟨W,blocks ρ (chH [.arr ty sz rows]),ext,0,ρ⟩ ρ (chH [.arr ty sz rows])) y z→Imm w' (owns ⟨W,blocks ρ (chH [.arr ty sz rows]),ext,0,ρ⟩ ρ (chH [.arr ty sz (rows.eraseIdx k)])) y z:=λq z _ hz=>by
     refine hz.mono (Nat.le_of_eq hsize.symm) (λb hb1 hb2=>bel b λhx=>hb2 (hx▸hown)) λb hb1 ho=>?_
     rcases ho with ho|⟨c,hc,hnl,hb⟩
     ·exact .inl ho
     ·obtain rfl:=hl _ c hc
      exact .inr ⟨0,hl0 _,hnl,hb⟩
    rw[n3,if_neg (by omega),m3]
    rw[List.getElem?_eraseIdx] at hx
    by_cases hik:i<k
    ·rw[if_pos hik] at hx
     have hi2:(i+1)*sz≤k*sz:=Nat.mul_le_mul_right _ hik
     obtain⟨z,hz1,hz2⟩:=hu4 i x j y hx hy
     refine⟨z, ?_,tail i z hz1 hz2⟩
     rw[if_neg (by omega)]
     have:=hcell _ _ hz1
     simpa[World.cell?,hcs] using this
    ·rw[if_neg hik] at hx
     have hi2:k*sz≤i*sz:=Nat.mul_le_mul_right _ (by omega)
     obtain⟨z,hz1,hz2⟩:=hu4 (i+1) x j y hx hy
     refine⟨z, ?_,tail (i+1) z hz1 hz2⟩
     rw[if_pos (by rw[hdl];omega),List.getElem?_drop]
     rw[←hz1]
     congr 1
     omega
   ·rw[h1 _ c hc];trivial
  ·obtain rfl:=hl _ c hc
   exact r.home 0 (hl0 _) hnl
  ·simp only[Den,Den2,Den1,Den0,h0]
   exact(by simp[VL.Loc.sl,VL.Loc.addr,hnil])
theorem e124:entr Tryz.prog 124=true:=by kernel_rfl
theorem o124 (ps:List M.Pk) (k:Nat) (hk:k<ps.length):FnP Tryz.prog G 124 0 [.arr 54 7 (ps.map M.Pk.row)] [.own 0 ps.length,.int .i64 (k:Int),.int .i64 ((k:Int)+1)] (λr o=>r=.own 0 (ps.length - 1)∧o=[.arr 54 7 ((ps.eraseIdx k).map M.Pk.row)]):=by
 have:=qj5 (G:=G) e124 m124 rfl 54 (ps.map M.Pk.row) ps.length k (by simp) hk
 rw[q74] at this
 exact this
end Go.Proofs.YtpppoklkijmeoaaGreatDoor.W
namespace Go.Proofs.YtpppoklkijmeoaaGreatDoor.W
open Go Go.RowKit Go.Proofs Go.Proofs.YtpppoklkijmeoaaGreatDoor.VL Go.Proofs.YtpppoklkijmeoaaGreatDoor.M
attribute [congr] qf5 qce qdl qg8 qfw qj4 CallV_congr LoopI_congr qde qg0 qft qd5 qgp qhm qgq qfu qg3 ql8 qcn qh6 qg4
attribute [go_sem] qhn qlw qjr qhk q4k qrm qr9 qo0 qog qtj qri qoq qkm qin qmy ql0 exN_n exN_r exN_e exB_n exB_r exB_h exB_m qtn kT_e qml qy0 kD_e qmd qu5 qy7 gK_t gK_f do_mv qo8 qun qxl qvl qr2 qyp qy2 qvm qzb quf qu2 qyo qwg qvy qxa qzr qxm qoy qpp qwd qva qwm qmt qxj ldK_s qop qyl qsd qpe qsy qxg qvc qrq qve qsu qx6 qyx qxk qvh qwp do_mn do_mx qmr qt2 qx9 qxn qsf qvr qsp qsm qxw qul qwi ev_t ev_c qlj qjg
attribute [go_sem] List.nil_append List.cons_append List.append_nil qkt qgh qme qmq qiq nm_eq ne_eq Nat.reduceEqDiff not_false_eq_true Nat.reduceAdd Nat.add_zero zZ if_true if_false ite_true ite_false qou qtu qzv gdV_t gdV_f gdV_s qtd ge_iff_le gt_iff_lt cond_true cond_false qqm qhg qia qf8 qgj qgu qkv qf7 ld_pv ld_pa ld_ip qpi q4h qom qr5 qpg qqa ldA_s ld1_s qum qtw qv2 qol qr6 qqp not_b neg_i cvi_i ext_t qxx qwv
attribute [go_sem] qzo qrw rvs_t rvs_c qu9 qpj qv5 quh j03 qwf qvp  zS List.map_cons List.map_nil List.all_cons List.all_nil Bool.and_true Bool.and_self Bool.not_true Bool.not_false Option.map_some Option.map_none sls_s qz1 loV_n loV_i hiV_n hiV_i idx_s mn_i mx_i s2b_s b2s_s qzc qit qfd qwx qwr qox qly qu0 qz4 qxr qua qmi qmg qjy List.length_map qrv ql6 qtk qym mks_i qhl qq0 qjo qvz eq_self qgk qlp qz0 qjh qsl qpc qql qui qlz qi8 qr4 qwq qmc qvo qoj qkp qlv qlb List.getElem?_cons_zero List.getElem?_cons_succ zC zN decide_true decide_false Int.toNat_natCast Int.cast_ofNat_Int Int.reduceLT Int.reduceLE Int.reduceEq Int.reduceAdd Int.reduceSub Int.reduceMul Int.reduceNeg Int.reduceToNat List.getD_cons_zero List.getD_cons_succ not_true_eq_false not_false_eq_true Bool.false_eq_true Bool.true_eq_false reduceCtorEq
attribute [go_sem] E.row Pc.row Pair.row Part.row Strm.row Flw.row Pk.row Door.row Conv.row World.row Ev.row rdV E.eta Pc.eta Pair.eta Part.eta Strm.eta Pk.eta Flw.eta Conv.eta Door.eta World.eta Ev.eta
attribute [go_sem] quc st_pv st_pa q3w qpl Nat.le_refl List.drop_zero List.drop_succ_cons List.take_succ_cons List.take_zero q5k Nat.reduceLeDiff
attribute [go_sem] qu3 qpq qoo qba qkj q8r qjp qmx qkw qq2 qps qkq qgv qj0 qdg qfa qfg qfh qhj qoa qm1 qpb qjw qcm qka qjs qk1 qth qkg qpy ql4 qt7 qud fzA_a fzW_a fzP_v q5f q8p qcz WkS_nil WkS_cons WkN_nil WkN_cons ql2 qhd ql5 qm7 qig qo3 qof and_true true_and and_self
attribute [go_sem] qrl qra qrj qpx qks qkd qmb qmo qrs qro qqr qo6 qju qk0 qla qmm qk5 qm6 qms qke qm4 qko qm5 qlx qkn qm8 qlh qmf qp8 qr1 qp2 qok qzi qwk qwb qvt qq6 qqs qov qr3 qjt qku qls qll qwc qyq qyr qt5 qsv qte qwz qur qk6 qlr qlq qlm qp0 qvi qzy
attribute [go_sem] quk qxv qp4 rn_fn qzd rnfn1 qv4 qqe qqx qo2 qkx qqi qmk qjv qma qjk qyf qle qq4 qmj j00 qxc qcu qdi qjn qez q8d q6o qfy qgs qrt qzq qwa qxz qsw chH_n qsk qye qnz eqR_i eqR_b eqR_s qvd qvs eqs_a beq_f beq_t qe2 qep qqy ql3 Nat.reduceMul Nat.reduceLT Nat.zero_le Nat.not_lt_zero
attribute [go_sem] mV lD lA fD bN eX oP nP sR i0 s0 gT gF cT cF cI pF pT cD
def ic27:IC:=sR [oP 6 (.mv cF)] (sR [mV 7 0,mV 8 1,bN 9 .geq 7 8,mV 10 9,gT 11 10 (.mv (.t 0)),gT 12 10 (.mv (.t 2)),gT 13 10 (.bin .leq (.t 11) (.t 12)),pF 14 10 13,mV 6 14] .ret)
theorem dg27:Dg Tryz.prog 27 Tryz.f27 ic27 [(.t 6)]:=⟨Tryz.func27,by kernel_rfl,by kernel_rfl⟩
theorem c27 (a b c:Int):FnR Tryz.prog G 27 [.int .i64 a,.int .i64 b,.int .i64 c] (.bool (q0j a b c)):=by
 refine mF dg27 Tryz.ntmps27 ?_
 unfold q0j
 cases h:decide (b≤a)<;>simp only[ic27,go_sem,h,Bool.false_and,Bool.true_and]
def ic20:IC:=sR [oP 6 (.mv cF)] (sR [mV 7 0,mV 8 1,bN 9 .geq 7 8,mV 10 9,gT 11 10 (.mv (.t 0)),gT 12 10 (.mv (.t 2)),gT 13 10 (.bin .leq (.t 11) (.t 12)),pF 14 10 13,mV 6 14] .ret)
theorem dg20:Dg Tryz.prog 20 Tryz.f20 ic20 [(.t 6)]:=⟨Tryz.func20,by kernel_rfl,by kernel_rfl⟩
theorem c20 (a b c:Int):FnR Tryz.prog G 20 [.int .i64 a,.int .i64 b,.int .i64 c] (.bool (q0j a b c)):=by
 refine mF dg20 Tryz.ntmps20 ?_
 unfold q0j
 cases h:decide (b≤a)<;>simp only[ic20,go_sem,h,Bool.false_and,Bool.true_and]
def qzs:IC:=sR [oP 1 (.box 52 (.t 0)),oP 2 (.mv cF)] (sR [fD 3 0 1,lD 4 1 3,oP 5 (.call 27 [.t 4,cI 1,cI 3]),mV 6 5,gT 7 6 (.fad 1 (.t 1)),gT 8 6 (.ld 1 false (.t 7)),gT 9 6 (.call 27 [.t 8,cI 1,cI 9]),pF 10 6 9,mV 2 10] .ret)
theorem dg121:Dg Tryz.prog 121 Tryz.f121 qzs [(.t 2)]:=⟨Tryz.func121,by kernel_rfl,by kernel_rfl⟩
theorem qs4 (a p:Int):FnR Tryz.prog G 121 [.agg [.int .i64 a,.int .i64 p]] (.bool (E.inside ⟨a,p⟩)):=by
 refine mF dg121 Tryz.ntmps121 ?_
 unfold E.inside
 simp only[qzs,go_sem]
 refine q0m (c27 _ _ _) rfl rfl ?_
 cases h:q0j a 1 3<;>simp only[go_sem,Bool.false_and,Bool.true_and]
 refine q0m (c27 _ _ _) rfl rfl ?_
 simp only[go_sem]
def qux:IC:=sR [oP 1 (.box 52 (.t 0)),oP 2 (.mv cF)] (sR [fD 3 1 1,lD 4 1 3,oP 5 (.call 20 [.t 4,cI 1,cI 9]),mV 2 5] .ret)
theorem dg130:Dg Tryz.prog 130 Tryz.f130 qux [(.t 2)]:=⟨Tryz.func130,by kernel_rfl,by kernel_rfl⟩
theorem c130 (a p:Int):FnR Tryz.prog G 130 [.agg [.int .i64 a,.int .i64 p]] (.bool (q0j p 1 9)):=by
 refine mF dg130 Tryz.ntmps130 ?_
 simp only[qux,go_sem]
 refine q0m (c20 _ _ _) rfl rfl ?_
 simp only[go_sem]
def qtb:IC:=sR [oP 1 (.box 52 (.t 0)),oP 2 (.mv cF)] (sR [fD 3 0 1,lD 4 1 3,oP 5 (.call 20 [.t 4,cI 1,cI 3]),mV 6 5,gT 7 6 (.ld 2 true (.t 1)),gT 8 6 (.call 130 [.t 7]),pF 9 6 8,mV 2 9] .ret)
theorem dg127:Dg Tryz.prog 127 Tryz.f127 qtb [(.t 2)]:=⟨Tryz.func127,by kernel_rfl,by kernel_rfl⟩
theorem c127 (a p:Int):FnR Tryz.prog G 127 [.agg [.int .i64 a,.int .i64 p]] (.bool (E.inside ⟨a,p⟩)):=by
 refine mF dg127 Tryz.ntmps127 ?_
 unfold E.inside
 simp only[qtb,go_sem]
 refine q0m (c20 _ _ _) rfl rfl ?_
 cases h:q0j a 1 3<;>simp only[go_sem,Bool.false_and,Bool.true_and]
 refine q0m (c130 _ _) rfl rfl ?_
 simp only[go_sem]
def qx5:IC:=sR [oP 1 (.box 52 (.t 0)),oP 2 (.mv cF)] (sR [fD 3 0 1,lD 4 1 3,oP 5 (.call 27 [.t 4,cI 4,cI 6]),mV 6 5,gT 7 6 (.fad 1 (.t 1)),gT 8 6 (.ld 1 false (.t 7)),gT 9 6 (.call 27 [.t 8,cI 1,cI 9]),pF 10 6 9,mV 2 10] .ret)
theorem dg106:Dg Tryz.prog 106 Tryz.f106 qx5 [(.t 2)]:=⟨Tryz.func106,by kernel_rfl,by kernel_rfl⟩
theorem qyt (a p:Int):FnR Tryz.prog G 106 [.agg [.int .i64 a,.int .i64 p]] (.bool (E.outside ⟨a,p⟩)):=by
 refine mF dg106 Tryz.ntmps106 ?_
 simp only[qx5,go_sem]
 with_reducible repeat' (first|refine br ?_ ?_<;>intro h e<;>(try simp only[e,go_sem])<;>clear e|rw[q00 (by omega)]|refine sd ?_<;>try simp only[go_sem]|(first|refine cr (c27 ..) ?_)<;>try simp only[go_sem]|fail)
 all_goals simp_all[E.outside]
def ic92:IC:=sR [oP 1 (.box 52 (.t 0)),oP 2 (.mv cF)] (sR [fD 3 0 1,lD 4 1 3,oP 5 (.call 20 [.t 4,cI 4,cI 6]),mV 6 5,gT 7 6 (.ld 2 true (.t 1)),gT 8 6 (.call 130 [.t 7]),pF 9 6 8,mV 2 9] .ret)
theorem dg92:Dg Tryz.prog 92 Tryz.f92 ic92 [(.t 2)]:=⟨Tryz.func92,by kernel_rfl,by kernel_rfl⟩
theorem c92 (a p:Int):FnR Tryz.prog G 92 [.agg [.int .i64 a,.int .i64 p]] (.bool (E.outside ⟨a,p⟩)):=by
 refine mF dg92 Tryz.ntmps92 ?_
 simp only[ic92,go_sem]
 with_reducible repeat' (first|refine br ?_ ?_<;>intro h e<;>(try simp only[e,go_sem])<;>clear e|rw[q00 (by omega)]|refine sd ?_<;>try simp only[go_sem]|(first|refine cr (c20 ..) ?_|refine cr (c130 ..) ?_)<;>try simp only[go_sem]|fail)
 all_goals simp_all[E.outside]
def qxt:IC:=sR [oP 1 (.box 52 (.t 0)),oP 2 (.mv cF)] (sR [fD 3 0 1,lD 4 1 3,oP 5 (.bin .eql (.t 4) (cI 9)),mV 6 5,gT 7 6 (.fad 1 (.t 1)),gT 8 6 (.ld 1 false (.t 7)),gT 9 6 (.call 27 [.t 8,cI 10,cI 17]),pF 10 6 9,mV 2 10] .ret)
theorem dg114:Dg Tryz.prog 114 Tryz.f114 qxt [(.t 2)]:=⟨Tryz.func114,by kernel_rfl,by kernel_rfl⟩
theorem qjb (a p:Int):FnR Tryz.prog G 114 [.agg [.int .i64 a,.int .i64 p]] (.bool (E.door ⟨a,p⟩)):=by
 refine mF dg114 Tryz.ntmps114 ?_
 simp only[qxt,go_sem]
 with_reducible repeat' (first|refine br ?_ ?_<;>intro h e<;>(try simp only[e,go_sem])<;>clear e|rw[q00 (by omega)]|refine sd ?_<;>try simp only[go_sem]|(first|refine cr (c27 ..) ?_)<;>try simp only[go_sem]|fail)
 all_goals simp_all[E.door]
def qw1:IC:=sR [oP 1 (.box 52 (.t 0)),oP 2 (.mv cF)] (sR [fD 3 0 1,lD 4 1 3,oP 5 (.bin .eql (.t 4) (cI 9)),mV 6 5,gT 7 6 (.fad 1 (.t 1)),gT 8 6 (.ld 1 false (.t 7)),gT 9 6 (.call 20 [.t 8,cI 10,cI 17]),pF 10 6 9,mV 2 10] .ret)
theorem dg120:Dg Tryz.prog 120 Tryz.f120 qw1 [(.t 2)]:=⟨Tryz.func120,by kernel_rfl,by kernel_rfl⟩
theorem qja (a p:Int):FnR Tryz.prog G 120 [.agg [.int .i64 a,.int .i64 p]] (.bool (E.door ⟨a,p⟩)):=by
 refine mF dg120 Tryz.ntmps120 ?_
 simp only[qw1,go_sem]
 with_reducible repeat' (first|refine br ?_ ?_<;>intro h e<;>(try simp only[e,go_sem])<;>clear e|rw[q00 (by omega)]|refine sd ?_<;>try simp only[go_sem]|(first|refine cr (c20 ..) ?_)<;>try simp only[go_sem]|fail)
 all_goals simp_all[E.door]
def qx4:IC:=sR [oP 1 (.box 52 (.t 0)),oP 2 (.mv cF)] (sR [lA 3 2 1,oP 4 (.call 121 [.t 3]),mV 5 4,gF 6 5 (.ld 2 true (.t 1)),gF 7 5 (.call 106 [.t 6]),pT 8 5 7,mV 9 8,gF 10 9 (.ld 2 true (.t 1)),gF 11 9 (.call 114 [.t 10]),pT 12 9 11,mV 2 12] .ret)
theorem dg110:Dg Tryz.prog 110 Tryz.f110 qx4 [(.t 2)]:=⟨Tryz.func110,by kernel_rfl,by kernel_rfl⟩
theorem c110 (a p:Int):FnR Tryz.prog G 110 [.agg [.int .i64 a,.int .i64 p]] (.bool (E.any ⟨a,p⟩)):=by
 refine mF dg110 Tryz.ntmps110 ?_
 simp only[qx4,go_sem]
 with_reducible repeat' (first|refine br ?_ ?_<;>intro h e<;>(try simp only[e,go_sem])<;>clear e|rw[q00 (by omega)]|refine sd ?_<;>try simp only[go_sem]|(first|refine cr (qs4 ..) ?_|refine cr (qyt ..) ?_|refine cr (qjb ..) ?_)<;>try simp only[go_sem]|fail)
 all_goals simp_all[E.any]
def ic88:IC:=sR [oP 1 (.box 52 (.t 0)),oP 2 (.mv cF)] (sR [lA 3 2 1,oP 4 (.call 127 [.t 3]),mV 5 4,gF 6 5 (.ld 2 true (.t 1)),gF 7 5 (.call 92 [.t 6]),pT 8 5 7,mV 9 8,gF 10 9 (.ld 2 true (.t 1)),gF 11 9 (.call 120 [.t 10]),pT 12 9 11,mV 2 12] .ret)
theorem dg88:Dg Tryz.prog 88 Tryz.f88 ic88 [(.t 2)]:=⟨Tryz.func88,by kernel_rfl,by kernel_rfl⟩
theorem c88 (a p:Int):FnR Tryz.prog G 88 [.agg [.int .i64 a,.int .i64 p]] (.bool (E.any ⟨a,p⟩)):=by
 refine mF dg88 Tryz.ntmps88 ?_
 simp only[ic88,go_sem]
 with_reducible repeat' (first|refine br ?_ ?_<;>intro h e<;>(try simp only[e,go_sem])<;>clear e|rw[q00 (by omega)]|refine sd ?_<;>try simp only[go_sem]|(first|refine cr (c127 ..) ?_|refine cr (c92 ..) ?_|refine cr (qja ..) ?_)<;>try simp only[go_sem]|fail)
 all_goals simp_all[E.any]
theorem u8le {a b:UInt8}:((a.toNat:Int)≤(b.toNat:Int))=(a≤b):=by simp[UInt8.le_iff_toNat_le]
def dig (b:UInt8):Int:=if q5x b 48 then(b.toNat:Int) - 48 else -1
def qv6:IC:=sR [oP 2 (.mv (.c i0))] (.seq (sR [mV 3 0,oP 4 (.bin .lss (.t 3) (.c (.int .u8 48))),mV 5 4,gF 6 5 (.mv (.t 0)),gF 7 5 (.bin .gtr (.t 6) (.c (.int .u8 57))),pT 8 5 7] (cD 8 (sR [oP 2 (.mv (.c (.int .i64 (-1))))] .ret) .skip)) (sR [mV 9 0,oP 10 (.bin .sub (.t 9) (.c (.int .u8 48))),oP 11 (.cvi .i64 (.t 10)),mV 2 11] .ret))
theorem dg209:Dg Tryz.prog 209 Tryz.f209 qv6 [(.t 2)]:=⟨Tryz.func209,by kernel_rfl,by kernel_rfl⟩
theorem qrk (b:UInt8):FnR Tryz.prog G 209 [.int .u8 (b.toNat:Int)] (.int .i64 (dig b)):=by
 refine mF dg209 Tryz.ntmps209 ?_
 have hb:b.toNat<256:=b.toNat_lt
 have e:q5x b 48=(decide (48≤(b.toNat:Int))&&decide ((b.toNat:Int)≤57)):=by
  simp only[q5x,UInt8.le_iff_toNat_le]
  have:(48:UInt8).toNat=48:=rfl
  have:(57:UInt8).toNat=57:=rfl
  congr 1<;>(apply decide_eq_decide.2;omega)
 simp only[qv6,go_sem,dig,e]
 with_reducible repeat' (first|refine br ?_ ?_<;>intro h e<;>(try simp only[e,go_sem])<;>clear e|rw[q00 (by omega)]|refine sd ?_<;>try simp only[go_sem]|fail)
 all_goals first
  | (rw[if_neg (by simp;omega)])
  | (rw[if_pos (by simp;omega),u8w (by omega),q00 (by omega)])
def qqj:IC:=sR [oP 2 (.mv (.c s0))] (.seq (sR [mV 3 0,oP 4 (.bin .lss (.t 3) (.c (.int .i64 (-9223372036854775807))))] (cD 4 (sR [oP 2 (.mv (.c (.str [45,57,50,50,51,51,55,50,48,51,54,56,53,52,55,55,53,56,48,56])))] .ret) .skip)) (.seq (sR [mV 5 0,oP 6 (.bin .lss (.t 5) (.c i0))] (cD 6 (sR [mV 7 0,oP 8 (.un .neg (.t 7)),oP 9 (.call 218 [.t 8]),oP 10 (.bin .add (.c (.str [45])) (.t 9)),mV 2 10] .ret) .skip)) (.seq (sR [mV 11 0,oP 12 (.bin .lss (.t 11) (cI 10))] (cD 12 (sR [mV 13 0,oP 14 (.bin .add (cI 48) (.t 13)),oP 15 (.cvi .u8 (.t 14)),oP 16 (.bsl 5 1 [.t 15]),oP 17 (.b2s (.t 16)),mV 2 17] .ret) .skip)) (.seq (.drw [0,1,3,0,8,24,56,120,248,511,1023] [(0,mV 18 0),(1,oP 19 (.bin .quo (.t 18) (cI 10))),(2,oP 20 (.call 218 [.t 19])),(3,mV 21 0),(4,oP 22 (.bin .rem (.t 21) (cI 10))),(5,oP 23 (.bin .add (cI 48) (.t 22))),(6,oP 24 (.cvi .u8 (.t 23))),(7,oP 25 (.bsl 5 1 [.t 24])),(8,oP 26 (.b2s (.t 25))),(9,bN 27 .add 20 26),(10,mV 2 27)]) .ret))))
theorem qwy:Dg Tryz.prog 218 Tryz.f218 qqj [(.t 2)]:=⟨Tryz.func218,by kernel_rfl,by kernel_rfl⟩
theorem qxp (n:Int) (h:0≤n∧n<10):FnR Tryz.prog G 218 [.int .i64 n] (.str (dec n)):=by
 refine mF qwy Tryz.ntmps218 ?_
 simp only[qqj,go_sem]
 with_reducible repeat' (first|refine br ?_ ?_<;>intro h e<;>(try simp only[e,go_sem])<;>clear e|rw[q00 (by omega)]|refine sd ?_<;>try simp only[go_sem]|fail)
 all_goals first|omega|skip
 rw[u8w (by omega)]
 simp only[dec,qn1]
 rw[if_pos (by omega)]
 congr 2
 omega
theorem c218 (n:Int) (h:0≤n∧n<100):FnR Tryz.prog G 218 [.int .i64 n] (.str (dec n)):=by
 by_cases h10:n<10
 ·exact qxp n ⟨h.1,h10⟩
 refine mF qwy Tryz.ntmps218 ?_
 have e1:n.tdiv 10=n / 10:=Int.tdiv_eq_ediv_of_nonneg h.1
 have e2:n.tmod 10=n % 10:=Int.tmod_eq_emod_of_nonneg h.1
 have hl:(dec (n / 10)).length≤2:=by unfold dec qn1;split<;>simp
 simp only[qqj,go_sem,e1,e2]
 with_reducible repeat' (first|refine br ?_ ?_<;>intro h e<;>(try simp only[e,go_sem])<;>clear e|rw[q00 (by omega)]|refine sd ?_<;>try simp only[go_sem]|fail)
 all_goals first|omega|skip
 refine q0m (qxp _ (by omega)) rfl rfl ?_
 simp only[go_sem,e1,e2]
 with_reducible repeat' (first|refine br ?_ ?_<;>intro h e<;>(try simp only[e,go_sem])<;>clear e|rw[q00 (by omega)]|refine sd ?_<;>try simp only[go_sem]|fail)
 simp only[dec,qn1]
 rw[if_neg (by omega),if_pos (by omega),u8w (by omega)]
 have e3:n.toNat / 10=(n / 10).toNat:=by omega
 have e4:48+n.toNat % 10=(48+n % 10).toNat:=by omega
 simp only[List.cons_append,List.nil_append,e3,e4]
theorem qac (n:Int):(dec n).length≤2:=by unfold dec qn1;split<;>simp
def qw3:IC:=sR [oP 4 (.mv cF)] (sR [mV 5 0,mV 6 1,bN 7 .geq 5 6,mV 8 7,gT 9 8 (.mv (.t 0)),gT 10 8 (.bin .leq (.t 9) (.c (.int .u8 57))),pF 11 8 10,mV 4 11] .ret)
theorem dg141:Dg Tryz.prog 141 Tryz.f141 qw3 [(.t 4)]:=⟨Tryz.func141,by kernel_rfl,by kernel_rfl⟩
theorem c141 (b lo:UInt8):FnR Tryz.prog G 141 [.int .u8 (b.toNat:Int),.int .u8 (lo.toNat:Int)] (.bool (q5x b lo)):=by
 refine mF dg141 Tryz.ntmps141 ?_
 have e:q5x b lo=(decide ((lo.toNat:Int)≤(b.toNat:Int))&&decide ((b.toNat:Int)≤57)):=by
  simp only[q5x,UInt8.le_iff_toNat_le]
  have:(57:UInt8).toNat=57:=rfl
  congr 1<;>(apply decide_eq_decide.2;omega)
 simp only[qw3,go_sem,e]
 with_reducible repeat' (first|refine br ?_ ?_<;>intro h e<;>(try simp only[e,go_sem])<;>clear e|rw[q00 (by omega)]|refine sd ?_<;>try simp only[go_sem]|fail)
 all_goals simp_all
theorem qg7 (b:UInt8):(decide ((97:Int)≤(b.toNat:Int))=decide (97≤b))∧(decide ((b.toNat:Int)≤122)=decide (b≤122))∧(decide ((48:Int)≤(b.toNat:Int))=decide (48≤b))∧(decide ((b.toNat:Int)≤57)=decide (b≤57)) ∧
 (decide ((b.toNat:Int)=64)=decide (b=64))∧(decide ((b.toNat:Int)=58)=decide (b=58))∧(decide ((b.toNat:Int)=59)=decide (b=59))∧(decide ((b.toNat:Int)<97)=decide (b<97))∧(decide (122<(b.toNat:Int))=decide (122<b)):=by
 refine⟨?_, ?_, ?_, ?_, ?_, ?_, ?_, ?_, ?_⟩<;>apply decide_eq_decide.2<;>simp only[UInt8.le_iff_toNat_le,UInt8.lt_iff_toNat_lt,←UInt8.toNat_inj] <;>
  (have e1:(97:UInt8).toNat=97:=rfl;have e2:(122:UInt8).toNat=122:=rfl;have e3:(48:UInt8).toNat=48:=rfl;have e4:(57:UInt8).toNat=57:=rfl
   have e5:(64:UInt8).toNat=64:=rfl;have e6:(58:UInt8).toNat=58:=rfl;have e7:(59:UInt8).toNat=59:=rfl
   omega)
def qt0:IC:=sR [oP 2 (.mv cF)] (sR [mV 3 0,oP 4 (.bin .geq (.t 3) (.c (.int .u8 97))),mV 5 4,gT 6 5 (.mv (.t 0)),gT 7 5 (.bin .leq (.t 6) (.c (.int .u8 122))),pF 8 5 7,mV 9 8,gF 10 9 (.mv (.t 0)),gF 11 9 (.bin .geq (.t 10) (.c (.int .u8 48))),gF 12 9 (.mv (.t 11)),gT 13 12 (.mv (.t 0)),gT 14 12 (.bin .leq (.t 13) (.c (.int .u8 57))),gF 15 9 (.pick (.t 12) (.t 14) cF),pT 16 9 15,mV 17 16,gF 18 17 (.mv (.t 0)),gF 19 17 (.bin .eql (.t 18) (.c (.int .u8 64))),pT 20 17 19,mV 21 20,gF 22 21 (.mv (.t 0)),gF 23 21 (.bin .eql (.t 22) (.c (.int .u8 58))),pT 24 21 23,mV 25 24,gF 26 25 (.mv (.t 0)),gF 27 25 (.bin .eql (.t 26) (.c (.int .u8 59))),pT 28 25 27,mV 2 28] .ret)
theorem dg128:Dg Tryz.prog 128 Tryz.f128 qt0 [(.t 2)]:=⟨Tryz.func128,by kernel_rfl,by kernel_rfl⟩
theorem c128 (b:UInt8):FnR Tryz.prog G 128 [.int .u8 (b.toNat:Int)] (.bool (okB b)):=by
 refine mF dg128 Tryz.ntmps128 ?_
 obtain⟨e1,e2,e3,e4,e5,e6,e7,e8,e9⟩:=qg7 b
 simp only[qt0,go_sem,e1,e2,e3,e4,e5,e6,e7]
 repeat' (first
  | (with_reducible refine gBn (λh=>?_) (λh=>?_)<;>(try simp only[h,go_sem,e1,e2,e3,e4,e5,e6,e7]))
  | (with_reducible refine gB (λh=>?_) (λh=>?_)<;>(try simp only[h,go_sem,e1,e2,e3,e4,e5,e6,e7])))
 all_goals(clear e1 e2 e3 e4 e5 e6 e7 e8 e9;simp only[okB,q5x, *,Bool.and_true,Bool.true_and,Bool.false_and,Bool.or_true,Bool.true_or,Bool.false_or,Bool.or_false,Bool.and_self])
theorem q6g {t:B} {i:Nat} (h:i<t.length) {p:UInt8→Bool} (hi:(t.take i).all p=true) (hp:p (t.getD i 0)=true):(t.take (i+1)).all p=true:=by
 rw[List.take_add_one,List.all_append,hi]
 simp only[List.getD,zE h,Option.getD_some] at hp
 simp[zE h,hp]
theorem q9k {t:B} {i:Nat} (h:i<t.length) (hp:okB (t.getD i 0)=false):txOk t=false:=by
 have:t.all okB=false:=by
  rw[List.all_eq_false]
  exact⟨t[i],List.getElem_mem h,by simpa[List.getD,zE h] using hp⟩
 simp[txOk,this]
def ic89:IC:=sR [oP 2 (.mv cF)] (.seq (sR [oP 3 (.mv (.c i0))] (.block 0 (.loop (.seq (sR [mV 4 3,mV 5 0,oP 6 (.lens (.t 5)),bN 7 .lss 4 6] (cD 7 .skip (.exit 0))) (.seq (.block 1 (sR [mV 10 0,mV 11 3,oP 12 (.idx (.t 10) (.t 11)),oP 13 (.call 128 [.t 12]),oP 14 (.un .not (.t 13))] (cD 14 (sR [oP 2 (.mv cF)] .ret) .skip))) (.reg [mV 8 3,oP 9 (.bin .add (.t 8) (cI 1)),mV 3 9])))))) (sR [mV 15 0,oP 16 (.lens (.t 15)),oP 17 (.bin .leq (.t 16) (cI 40)),mV 2 17] .ret))
theorem dg89:Dg Tryz.prog 89 Tryz.f89 ic89 [(.t 2)]:=⟨Tryz.func89,by kernel_rfl,by kernel_rfl⟩
theorem c89 (t:B) (hl:t.length≤2000000:=by omega):FnR Tryz.prog G 89 [.str t] (.bool (txOk t)):=by
 refine mF dg89 Tryz.ntmps89 ?_
 simp only[ic89,go_sem]
 refine q0d (λi:Nat=>⟨q0e [(0,.str t),(3,.int .i64 (i:Int))],q01 []⟩) (λi=>t.length - i) (λi=>i≤t.length∧(t.take i).all okB=true) 0 (leQ []) ⟨Nat.zero_le _,by simp⟩ ?_
 intro i ⟨hi,ha⟩
 simp only[go_sem]
 with_reducible repeat' (first|refine br ?_ ?_<;>intro h e<;>(try simp only[e,go_sem])<;>clear e|rw[q00 (by omega)]|refine sd ?_<;>try simp only[go_sem]|(first|refine cr (c128 ..) ?_)<;>try simp only[go_sem]|fail)
 ·exact⟨i+1,by omega,⟨by omega,q6g (by omega) ha h⟩,(leQ [])⟩
 ·exact q9k (by omega) h
 ·have:i=t.length:=by omega
  subst this
  simp only[List.take_length] at ha
  simp only[txOk,ha,Bool.true_and]
  apply decide_eq_decide.2;omega
theorem qht (c:UInt8) (s:B):Lib.index s [c]=if c∈s then((s.takeWhile λb=>decide (b≠c)).length:Int) else -1:=by
 induction s with
 | nil=>rfl
 | cons b l ih =>
   unfold Lib.index
   by_cases h:b=c
   ·subst h;simp[List.isPrefixOf]
   ·have h':¬c=b:=λe=>h e.symm
    have hp:([c]:B).isPrefixOf (b::l)=false:=by simp[List.isPrefixOf,h']
    rw[hp,if_neg (by simp),ih]
    by_cases hm:c∈l
    ·simp[hm,h,h']
    ·simp[hm,h']
theorem qi0 (p:UInt8→Bool):∀s:B,s.take (s.takeWhile p).length=s.takeWhile p
 | []=>rfl
 | b::l=>by
   by_cases h:p b=true
   ·simp[h,qi0 p l]
   ·simp[h]
theorem qhp (p:UInt8→Bool):∀s:B,s.drop (s.takeWhile p).length=s.dropWhile p
 | []=>rfl
 | b::l=>by
   by_cases h:p b=true
   ·simp[h,qhp p l]
   ·simp[h]
theorem qpu (s:B) (c:UInt8):Lib.cut s [c]=q92 s c:=by
 unfold Lib.cut q92
 rw[qht]
 by_cases h:c∈s
 ·rw[if_pos h,if_pos (by omega),if_pos h]
  simp only[Int.toNat_natCast,qi0,zC,zN,←List.drop_drop,qhp,List.drop_one,zZ]
 ·rw[if_neg h,if_neg (by decide),if_neg h]
theorem qf3 (n:Nat) (h:n<100):Lib.decDigits n=qn1 n:=by
 unfold qn1
 rw[Lib.decDigits]
 split
 ·rfl
 ·rw[Lib.decDigits,dif_pos (by omega)]
  rfl
theorem qli:∀k:Fin 100,Lib.atoiAll (qn1 k.val)=.ok (k.val:Int):=by decide +kernel
theorem q58 (k:Int) (h0:0≤k) (h1:k<100):Lib.atoiAll (dec k)=.ok k:=by
 have:=qli ⟨k.toNat,by omega⟩
 simp only at this
 unfold dec
 rw[this]
 congr 1
 omega
theorem e214:entr Tryz.prog 214=true:=by kernel_rfl
theorem c214 (n:Int) (h:0≤n∧n<100:=by omega):FnR Tryz.prog G 214 [.int .i64 n] (.str (dec n)):=by
 obtain⟨k,rfl⟩:∃k:Nat,n=(k:Int):=⟨n.toNat,by omega⟩
 refine FnR.lib e214 rfl rfl λW hg=>(Tryz.strconv_Itoa_small k (by omega) W).mono λe W' ⟨he,hw⟩=>⟨?_,by subst hw;exact Below.refl _ _⟩
 rw[he,qf3 k (by omega)]
 rfl
theorem e203:entr Tryz.prog 203=true:=by kernel_rfl
theorem c203 (s:B) (c:UInt8) (hs:s.length<4294967281:=by omega):FnR Tryz.prog G 203 [.str s,.str [c]] (.tup [.str (q92 s c).1,.str (q92 s c).2.1,.bool (q92 s c).2.2]):=by
 refine FnR.lib e203 rfl rfl λW hg=>?_
 obtain⟨⟨m,hm⟩,_⟩:=hg
 refine(Tryz.strings_Cut (mkStr s) (mkStr [c]) m W (by simpa[mkStr,ByteArray.size] using hs) hm).mono λe W' ⟨he,n,hw⟩=>⟨?_, ?_⟩
 ·rw[he]
  simp only[mkStr,qpu]
  rfl
 ·subst hw
  exact⟨rfl,rfl,rfl,Nat.le_refl _,λ_ _=>rfl⟩
theorem e188:entr Tryz.prog 188=true:=by kernel_rfl
theorem c188 (s p:B):FnR Tryz.prog G 188 [.str s,.str p] (.tup [.str (if p.isPrefixOf s then s.drop p.length else s),.bool (p.isPrefixOf s)]) :=
 FnR.lib e188 rfl rfl λW hg=>(Tryz.strings_CutPrefix (mkStr s) (mkStr p) W).mono λe W' ⟨he,hw⟩=>⟨he,by subst hw;exact Below.refl _ _⟩
theorem e224:entr Tryz.prog 224=true:=by kernel_rfl
theorem c224 (s:B) (hs:s.length≤281474976710656:=by omega):FnR Tryz.prog G 224 [.str s] (.str s) :=
 FnR.lib e224 rfl rfl λW hg=>(Tryz.stringslite_Clone (mkStr s) W (by simpa[mkStr,ByteArray.size] using hs)).mono λe W' ⟨he,hw⟩=>⟨he,hw⟩
def qsz:IC:=sR [oP 2 (.mv (.c s0))] (sR [mV 3 0,oP 4 (.call 224 [.t 3]),mV 2 4] .ret)
theorem dg217:Dg Tryz.prog 217 Tryz.f217 qsz [(.t 2)]:=⟨Tryz.func217,by kernel_rfl,by kernel_rfl⟩
theorem c217 (s:B) (hs:s.length≤281474976710656:=by omega):FnR Tryz.prog G 217 [.str s] (.str s):=by
 refine mF dg217 Tryz.ntmps217 ?_
 simp only[qsz,go_sem]
 refine q0m (c224 _ hs) rfl rfl ?_
 simp only[go_sem]
def AtoiP (s:B) (r:V) (o:List Hs):Prop:=o=[]∧((∃n:Int,r=.tup [.int .i64 n,.nile]∧∀k:Int,0≤k→k<100→s=dec k→n=k)∨(∃n:Int,r=.tup [.int .i64 n,.erre]∧∀k:Int,0≤k→k<100→s≠dec k))
theorem e213:entr Tryz.prog 213=true:=by kernel_rfl
theorem qiv {w:World} {O:Nat→Prop} {ρ:Nat→VL.Loc} {h:Nat→Hs} (n:Int) (t:TypeId) (N:Nat):Den w O ρ h (.tup [.int .i64 n,.erre]) (.tuple #[.int .i64 n,.iface t (.pointer (some ⟨N,0,none⟩))]):=by
 refine⟨[.int .i64 n,.iface t (.pointer (some ⟨N,0,none⟩))],rfl,rfl,λj v u hv hu=>?_⟩
 match j,hv,hu with
 | 0,hv,hu=>cases hv;cases hu;exact Imm.int _ _
 | 1,hv,hu=>cases hv;cases hu;exact Imm.erre _ _
theorem c213 (s:B) (hs:s.length≤2000000:=by omega):FnP Tryz.prog G 213 0 [] [.str s] (AtoiP s):=by
 have key:FnP Tryz.prog G 213 0 [] [.str s] (λr o=>o=[]∧((∃n:Int,r=.tup [.int .i64 n,.nile]∧∀k:Int,0≤k→k<100→s=dec k→n=k)∨(∃n:Int,r=.tup [.int .i64 n,.erre]∧∀k:Int,0≤k→k<100→s≠dec k))):=by
  have hz:(mkStr s).size≤2000000:=by simpa[mkStr,ByteArray.size] using hs
  have hl:(mkStr s).data.toList=s:=by simp[mkStr]
  rcases ha:Lib.atoiAll s with v|_|_
  ·refine FnP.lib (us:=[.string (mkStr s)]) e213 rfl ⟨_,.inl ⟨v,rfl,λk h0 h1 h2=>?_⟩⟩ λW hg=>(Any.strconv_Atoi_ok Tryz.laysC172 (mkStr s) (by omega) v (by rw[hl];exact ha) W).mono λe W' ⟨he,hw⟩=>⟨?_,_,_,he,.inl ⟨v,rfl,λk h0 h1 h2=>?_⟩,λO _=>q9s rfl⟩
   ·rw[h2,q58 k h0 h1] at ha;cases ha;rfl
   ·rcases hw with rfl|⟨t,rfl⟩
    ·exact Below.refl _ _
    ·exact Lib.bytesWorld_below W _ t
   ·rw[h2,q58 k h0 h1] at ha;cases ha;rfl
  ·refine FnP.lib (us:=[.string (mkStr s)]) e213 rfl ⟨_,.inr ⟨0,rfl,λk h0 h1 h2=>?_⟩⟩ λW hg=>?_
   ·rw[h2,q58 k h0 h1] at ha;cases ha
   obtain⟨_,⟨ev,hv,hev⟩,_⟩:=hg
   refine(Any.strconv_Atoi_syntax Tryz.laysC172 (mkStr s) (by omega) (by rw[hl];exact ha) ev W hv hev).mono λe W' ⟨N,he,hN,_,hb⟩=>⟨hb,_,_,he,.inr ⟨0,rfl,λk h0 h1 h2=>?_⟩,λO hO=>qiv _ _ N⟩
   ·rw[h2,q58 k h0 h1] at ha;cases ha
  ·refine FnP.lib (us:=[.string (mkStr s)]) e213 rfl ⟨_,.inr ⟨0,rfl,λk h0 h1 h2=>?_⟩⟩ λW hg=>?_
   ·rw[h2,q58 k h0 h1] at ha;cases ha
   obtain⟨_,_,ev,hv,hev⟩:=hg
   refine(Any.strconv_Atoi_range Tryz.laysC172 (mkStr s) (by omega) (by rw[hl];exact ha) ev W hv hev).mono λe W' ⟨N,he,hN,_,hb⟩=>⟨hb,_,_,he,.inr ⟨_,rfl,λk h0 h1 h2=>?_⟩,λO hO=>qiv _ _ N⟩
   ·rw[h2,q58 k h0 h1] at ha;cases ha
 exact key
theorem j08 (b:UInt8):FnR Tryz.prog G 141 [.int .u8 (b.toNat:Int),.int .u8 48] (.bool (q5x b 48)):=c141 b 48
theorem fig49 (b:UInt8):FnR Tryz.prog G 141 [.int .u8 (b.toNat:Int),.int .u8 49] (.bool (q5x b 49)):=c141 b 49
theorem qcx {t:B} {i:Nat} (h:i<t.length) (hp:okB (t.getD i default)=false):txOk t=false:=by
 refine q9k h ?_
 have:t.getD i default=t.getD i 0:=by simp[List.getD,h]
 rwa [←this]
theorem q90 {t:B} {i:Nat} (h:i<t.length) {p:UInt8→Bool} (hi:(t.take i).all p=true) (hp:p (t.getD i default)=true):(t.take (i+1)).all p=true:=by
 refine q6g h hi ?_
 have:t.getD i default=t.getD i 0:=by simp[List.getD,h]
 rwa [←this]
theorem qxq (b:UInt8):okB b=((!decide (b<97)&&!decide (122<b))||q5x b 48||decide (b=64)||decide (b=58)||decide (b=59)):=by
 have h1:decide (97≤b)=!decide (b<97):=by rw[←decide_not];exact decide_eq_decide.2 UInt8.not_lt.symm
 have h2:decide (b≤122)=!decide (122<b):=by rw[←decide_not];exact decide_eq_decide.2 UInt8.not_lt.symm
 simp only[okB,h1,h2]
def qww:IC:=sR [oP 2 (.mv cF)] (.seq (sR [mV 5 0,oP 6 (.s2b (.t 5)),oP 7 (.len (.t 6)),oP 8 (.mv (.c i0))] (.block 0 (.loop (sR [bN 9 .lss 8 7] (.seq (cD 9 .skip (.exit 0)) (.seq (.block 1 (sR [oP 10 (.iad 1 (.t 6) (.t 8)),lD 11 1 10,mV 4 11] (sR [mV 12 4,oP 13 (.call 141 [.t 12,.c (.int .u8 48)]),oP 14 (.un .not (.t 13)),mV 15 14,gT 16 15 (.mv (.t 4)),gT 17 15 (.bin .neq (.t 16) (.c (.int .u8 64))),pF 18 15 17,mV 19 18,gT 20 19 (.mv (.t 4)),gT 21 19 (.bin .neq (.t 20) (.c (.int .u8 58))),pF 22 19 21,mV 23 22,gT 24 23 (.mv (.t 4)),gT 25 23 (.bin .neq (.t 24) (.c (.int .u8 59))),pF 26 23 25,mV 27 26,gT 28 27 (.mv (.t 4)),gT 29 27 (.bin .lss (.t 28) (.c (.int .u8 97))),gT 30 27 (.mv (.t 29)),gF 31 30 (.mv (.t 4)),gF 32 30 (.bin .gtr (.t 31) (.c (.int .u8 122))),gT 33 27 (.pick (.t 30) cT (.t 32)),pF 34 27 33] (cD 34 (sR [oP 2 (.mv cF)] .ret) .skip)))) (.reg [oP 35 (.bin .add (.t 8) (cI 1)),mV 8 35]))))))) (sR [mV 36 0,oP 37 (.lens (.t 36)),oP 38 (.bin .leq (.t 37) (cI 40)),mV 2 38] .ret))
theorem dg111:Dg Tryz.prog 111 Tryz.f111 qww [(.t 2)]:=⟨Tryz.func111,by kernel_rfl,by kernel_rfl⟩
theorem qpd (t:B) (hl:t.length≤2000000:=by omega):FnR Tryz.prog G 111 [.str t] (.bool (txOk t)):=by
 refine mF dg111 Tryz.ntmps111 ?_
 simp only[qww,go_sem]
 with_reducible repeat' (first|refine br ?_ ?_<;>intro h e<;>(try simp only[e,go_sem])<;>clear e|rw[q00 (by omega)]|refine sd ?_<;>try simp only[go_sem]|fail)
 refine q0d (λi:Nat=>⟨q0e [(0,.str t),(6,.sl 1 (t.map λb=>[.int .u8 (b.toNat:Int)])),(7,.int .i64 t.length),(8,.int .i64 (i:Int))],q01 []⟩) (λi=>t.length - i) (λi=>i≤t.length∧(t.take i).all okB=true) 0 (leQ []) ⟨Nat.zero_le _,by simp⟩ ?_
 intro i ⟨hi,ha⟩
 simp only[go_sem]
 by_cases h:(i:Int)<t.length
 ·simp only[h,go_sem]
  refine effG (by omega) ?_
  generalize hb:t.getD i default=b
  obtain⟨e1,e2,e3,e4,e5,e6,e7,e8,e9⟩:=qg7 b
  simp only[go_sem]
  refine q0m (j08 _) rfl rfl ?_
  simp only[go_sem,e5,e6,e7,e8,e9]
  repeat' (first
   | (with_reducible refine gBn (λh=>?_) (λh=>?_)<;>(try simp only[h,go_sem,e5,e6,e7,e8,e9]))
   | (with_reducible refine cBn (λh=>?_) (λh=>?_)<;>(try simp only[h,go_sem,e5,e6,e7,e8,e9]))
   | (with_reducible refine cB (λh=>?_) (λh=>?_)<;>(try simp only[h,go_sem,e5,e6,e7,e8,e9]))
   | (with_reducible refine gB (λh=>?_) (λh=>?_)<;>(try simp only[h,go_sem,e5,e6,e7,e8,e9])))
  all_goals(clear e1 e2 e3 e4 e5 e6 e7 e8 e9)
  all_goals first
   | (refine⟨i+1,by omega,⟨by omega,q90 (t:=t) (i:=i) (by omega) ha (by rw[hb];simp only[qxq, *,Bool.or_true,Bool.true_or,Bool.not_false,Bool.and_self])⟩, ?_⟩;rw[q00 (by omega)];exact(leQ []))
   | (exact qcx (t:=t) (i:=i) (by omega) (by rw[hb];simp only[qxq, *,Bool.or_false,Bool.false_or,Bool.not_true,Bool.not_false,Bool.false_and,Bool.and_false,Bool.and_self]))
 ·simp only[h,go_sem]
  have:i=t.length:=by omega
  subst this
  simp only[List.take_length] at ha
  simp only[txOk,ha,Bool.true_and]
  apply decide_eq_decide.2;omega
def qqh (i:Nat) (b:UInt8):Bool:=match i with
 | 0=>decide (b=64)
 | 1=>q5x b 49
 | 2=>decide (b=58)
 | 3=>q5x b 49
 | 4=>q5x b 48
 | _=>false
theorem qnn (i:Nat) (b:UInt8):qqh i b=if(i:Int)=0 then decide ((b.toNat:Int)=64) else if(i:Int)=1 then q5x b 49 else if(i:Int)=3 then q5x b 49 else if(i:Int)=2 then decide ((b.toNat:Int)=58) else if(i:Int)=4 then q5x b 48 else false:=by
 obtain⟨_,_,_,_,e5,e6,_,_,_⟩:=qg7 b
 rw[e5,e6]
 match i with
 | 0=>rfl
 | 1=>rfl
 | 2=>rfl
 | 3=>rfl
 | 4=>rfl
 | n+5=>simp only[qqh];rw[if_neg (by omega),if_neg (by omega),if_neg (by omega),if_neg (by omega),if_neg (by omega)]
def qlu:Nat→B→Bool
 | _,[]=>true
 | k,b::r=>qqh k b&&qlu (k+1) r
theorem qyw (s:B) (h:s≠[]):q62 s=qlu 0 s:=by
 rcases s with _|⟨a,_|⟨b,_|⟨c,_|⟨d,_|⟨e,_|⟨f,r⟩⟩⟩⟩⟩⟩<;>simp[q62,qlu,qqh,Bool.and_assoc] at h ⊢
theorem qif {s:B} {i:Nat} (h:i<s.length):qlu i (s.drop i)=(qqh i (s.getD i default)&&qlu (i+1) (s.drop (i+1))):=by
 rw[List.drop_eq_getElem_cons h]
 simp[qlu,List.getD,h]
def qso:IC:=sR [oP 2 (.mv cF)] (.seq (sR [mV 6 0,oP 7 (.s2b (.t 6)),oP 8 (.len (.t 7)),oP 9 (.mv (.c i0))] (.block 0 (.loop (sR [bN 10 .lss 9 8] (.seq (cD 10 .skip (.exit 0)) (.seq (.block 1 (sR [mV 11 9,oP 12 (.iad 1 (.t 7) (.t 9)),lD 13 1 12,mV 3 11,mV 4 13] (sR [oP 5 (.mv cF)] (.seq (sR [mV 14 3] (.block 2 (sR [oP 16 (.bin .eql (.t 14) (.c i0)),mV 15 16] (cD 15 (.reg [mV 17 4,oP 18 (.bin .eql (.t 17) (.c (.int .u8 64))),mV 5 18]) (.seq (sR [oP 20 (.bin .eql (.t 14) (cI 1)),mV 19 20] (cD 19 .skip (.reg [oP 21 (.bin .eql (.t 14) (cI 3)),mV 19 21]))) (cD 19 (.reg [mV 22 4,oP 23 (.call 141 [.t 22,.c (.int .u8 49)]),mV 5 23]) (sR [oP 25 (.bin .eql (.t 14) (cI 2)),mV 24 25] (cD 24 (.reg [mV 26 4,oP 27 (.bin .eql (.t 26) (.c (.int .u8 58))),mV 5 27]) (sR [oP 29 (.bin .eql (.t 14) (cI 4)),mV 28 29] (cD 28 (.reg [mV 30 4,oP 31 (.call 141 [.t 30,.c (.int .u8 48)]),mV 5 31]) .skip)))))))))) (sR [mV 32 5,oP 33 (.un .not (.t 32))] (cD 33 (sR [oP 2 (.mv cF)] .ret) .skip)))))) (.reg [oP 34 (.bin .add (.t 9) (cI 1)),mV 9 34]))))))) (sR [oP 2 (.mv cT)] .ret))
theorem dg187:Dg Tryz.prog 187 Tryz.f187 qso [(.t 2)]:=⟨Tryz.func187,by kernel_rfl,by kernel_rfl⟩
theorem c187 (s:B) (hs:s≠[]) (hl:s.length≤2000000:=by omega):FnR Tryz.prog G 187 [.str s] (.bool (q62 s)):=by
 refine mF dg187 Tryz.ntmps187 ?_
 simp only[qso,go_sem]
 with_reducible repeat' (first|refine br ?_ ?_<;>intro h e<;>(try simp only[e,go_sem])<;>clear e|rw[q00 (by omega)]|refine sd ?_<;>try simp only[go_sem]|fail)
 refine q0d (λi:Nat=>⟨q0e [(7,.sl 1 (s.map λb=>[.int .u8 (b.toNat:Int)])),(8,.int .i64 s.length),(9,.int .i64 (i:Int))],q01 []⟩) (λi=>s.length - i) (λi=>i≤s.length∧q62 s=qlu i (s.drop i)) 0 (leQ []) ⟨Nat.zero_le _,by simpa using qyw s hs⟩ ?_
 intro i ⟨hi,ha⟩
 simp only[go_sem]
 by_cases h:(i:Int)<s.length
 ·simp only[h,go_sem]
  refine effG (by omega) ?_
  have hst:=qif (show i<s.length by omega)
  generalize hb:s.getD i default=b at hst ⊢
  obtain⟨_,_,_,_,e5,e6,_,_,_⟩:=qg7 b
  simp only[go_sem]
  have hT:qqh i b=true→q62 s=qlu (i+1) (s.drop (i+1)):=λh1=>by rw[ha,hst,h1,Bool.true_and]
  have hF:qqh i b=false→q62 s=false:=λh1=>by rw[ha,hst,h1,Bool.false_and]
  try simp only[go_sem,e5,e6]
  with_reducible repeat' (first|refine br ?_ ?_<;>intro h e<;>(try simp only[e,go_sem])<;>clear e|rw[q00 (by omega)]|refine sd ?_<;>try simp only[go_sem]|(first|refine cr (j08 ..) ?_|refine cr (fig49 ..) ?_)<;>try simp only[go_sem]|fail)
  all_goals first
   | exact hF (by clear hF hT ha hst hb;rw[qnn];first|(simp only[*,if_false];done)|simp[*])
   | (refine⟨i+1,by omega,⟨by omega,hT (by clear hF hT ha hst hb;rw[qnn];first|(simp only[*,if_false];done)|simp[*])⟩, ?_⟩;exact(leQ []))
 ·simp only[h,go_sem]
  have:i=s.length:=by omega
  subst this
  simpa[qlu] using ha.symm
theorem qvu (b:UInt8):decide (dig b<1)=!q5x b 49:=by
 have hb:=b.toNat_lt
 have h1:(48:UInt8).toNat=48:=rfl
 have h2:(49:UInt8).toNat=49:=rfl
 have h3:(57:UInt8).toNat=57:=rfl
 simp only[dig,q5x,UInt8.le_iff_toNat_le,h1,h2,h3]
 by_cases c1:49≤b.toNat<;>by_cases c2:b.toNat≤57<;>by_cases c3:48≤b.toNat<;>simp[c1,c2,c3]<;>omega
theorem qt3 (b:UInt8):decide (0≤dig b)=q5x b 48:=by
 have hb:=b.toNat_lt
 have h1:(48:UInt8).toNat=48:=rfl
 have h3:(57:UInt8).toNat=57:=rfl
 simp only[dig,q5x,UInt8.le_iff_toNat_le,h1,h3]
 by_cases c2:b.toNat≤57<;>by_cases c3:48≤b.toNat<;>simp[c2,c3]
 omega
def qyb:IC:=sR [oP 2 (.mv cF)] (sR [mV 4 0,oP 5 (.lens (.t 4)),mV 3 5] (.seq (sR [mV 6 3,oP 7 (.call 20 [.t 6,cI 1,cI 5]),oP 8 (.un .not (.t 7)),mV 9 8,gF 10 9 (.mv (.t 0)),gF 11 9 (.idx (.t 10) (.c i0)),gF 12 9 (.bin .neq (.t 11) (.c (.int .u8 64))),pT 13 9 12,mV 14 13,gF 15 14 (.mv (.t 3)),gF 16 14 (.bin .gtr (.t 15) (cI 1)),gF 17 14 (.mv (.t 16)),gT 18 17 (.mv (.t 0)),gT 19 17 (.idx (.t 18) (cI 1)),gT 20 17 (.call 209 [.t 19]),gT 21 17 (.bin .lss (.t 20) (cI 1)),gF 22 14 (.pick (.t 17) (.t 21) cF),pT 23 14 22,mV 24 23,gF 25 24 (.mv (.t 3)),gF 26 24 (.bin .gtr (.t 25) (cI 2)),gF 27 24 (.mv (.t 26)),gT 28 27 (.mv (.t 0)),gT 29 27 (.idx (.t 28) (cI 2)),gT 30 27 (.bin .neq (.t 29) (.c (.int .u8 58))),gF 31 24 (.pick (.t 27) (.t 30) cF),pT 32 24 31,mV 33 32,gF 34 33 (.mv (.t 3)),gF 35 33 (.bin .gtr (.t 34) (cI 3)),gF 36 33 (.mv (.t 35)),gT 37 36 (.mv (.t 0)),gT 38 36 (.idx (.t 37) (cI 3)),gT 39 36 (.call 209 [.t 38]),gT 40 36 (.bin .lss (.t 39) (cI 1)),gF 41 33 (.pick (.t 36) (.t 40) cF),pT 42 33 41] (cD 42 (sR [oP 2 (.mv cF)] .ret) .skip)) (sR [mV 43 3,oP 44 (.bin .lss (.t 43) (cI 5)),mV 45 44,gF 46 45 (.mv (.t 0)),gF 47 45 (.idx (.t 46) (cI 4)),gF 48 45 (.call 209 [.t 47]),gF 49 45 (.bin .geq (.t 48) (.c i0)),pT 50 45 49,mV 2 50] .ret)))
theorem dg196:Dg Tryz.prog 196 Tryz.f196 qyb [(.t 2)]:=⟨Tryz.func196,by kernel_rfl,by kernel_rfl⟩
theorem c196 (s:B):FnR Tryz.prog G 196 [.str s] (.bool (q62 s)):=by
 refine mF dg196 Tryz.ntmps196 ?_
 simp only[qyb,go_sem]
 refine q0m (c20 ..) rfl rfl ?_
 simp only[go_sem]
 have key:q0j s.length 1 5=true→(1≤s.length∧s.length≤5):=λh=>by rw[M.within_iff] at h;omega
 cases hw:q0j s.length 1 5<;>simp only[go_sem]
 ·rcases s with _|⟨a,_|⟨b,_|⟨c,_|⟨d,_|⟨e,_|⟨f,r⟩⟩⟩⟩⟩⟩<;>first|rfl|(exfalso;simp[q0j] at hw;done)
 ·obtain⟨k1,k2⟩:=key hw
  clear key hw
  have f49:∀x,q5x x 49=!decide (dig x<1):=λx=>by rw[qvu,Bool.not_not]
  have f48:∀x,q5x x 48=decide (0≤dig x):=λx=>(qt3 x).symm
  have f64:∀x:UInt8,decide (x=64)=decide ((x.toNat:Int)=64):=λx=>(qg7 x).2.2.2.2.1.symm
  have f58:∀x:UInt8,decide (x=58)=decide ((x.toNat:Int)=58):=λx=>(qg7 x).2.2.2.2.2.1.symm
  rcases s with _|⟨a,_|⟨b,_|⟨c,_|⟨d,_|⟨e,_|⟨f,r⟩⟩⟩⟩⟩⟩
  ·simp at k1
  ·simp only[go_sem]
   with_reducible repeat' (first|refine br ?_ ?_<;>intro h e<;>(try simp only[e,go_sem])<;>clear e|rw[q00 (by omega)]|refine sd ?_<;>try simp only[go_sem]|(first|refine cr (qrk ..) ?_)<;>try simp only[go_sem]|fail)
   all_goals first|omega|(simp only[q62,f49,f48,f58,f64];simp_all)
  ·simp only[go_sem]
   with_reducible repeat' (first|refine br ?_ ?_<;>intro h e<;>(try simp only[e,go_sem])<;>clear e|rw[q00 (by omega)]|refine sd ?_<;>try simp only[go_sem]|(first|refine cr (qrk ..) ?_)<;>try simp only[go_sem]|fail)
   all_goals first|omega|(simp only[q62,f49,f48,f58,f64];simp_all)
  ·simp only[go_sem]
   with_reducible repeat' (first|refine br ?_ ?_<;>intro h e<;>(try simp only[e,go_sem])<;>clear e|rw[q00 (by omega)]|refine sd ?_<;>try simp only[go_sem]|(first|refine cr (qrk ..) ?_)<;>try simp only[go_sem]|fail)
   all_goals first|omega|(simp only[q62,f49,f48,f58,f64];simp_all)
  ·simp only[go_sem]
   with_reducible repeat' (first|refine br ?_ ?_<;>intro h e<;>(try simp only[e,go_sem])<;>clear e|rw[q00 (by omega)]|refine sd ?_<;>try simp only[go_sem]|(first|refine cr (qrk ..) ?_)<;>try simp only[go_sem]|fail)
   all_goals first|omega|(simp only[q62,f49,f48,f58,f64];simp_all)
  ·simp only[go_sem]
   with_reducible repeat' (first|refine br ?_ ?_<;>intro h e<;>(try simp only[e,go_sem])<;>clear e|rw[q00 (by omega)]|refine sd ?_<;>try simp only[go_sem]|(first|refine cr (qrk ..) ?_)<;>try simp only[go_sem]|fail)
   all_goals first|omega|(simp only[q62,f49,f48,f58,f64];simp_all)
  ·simp at k2
theorem q9n {t:B} {k:Nat} (h:k+1≤t.length):q3g t (k+1)=if q62 (t.drop (t.length - (k+1))) then k+1 else q3g t k:=by
 simp[q3g,h]
theorem qee (t:B):held t=q3g t (min 5 t.length):=by
 have:∀n,q3g t (t.length+n)=q3g t t.length:=λn=>by
  induction n with
  | zero=>rfl
  | succ n ih=>rw[←Nat.add_assoc,q3g,ih];simp;omega
 by_cases h:5≤t.length
 ·rw[Nat.min_eq_left h];rfl
 ·rw[Nat.min_eq_right (by omega),held]
  have:=this (5 - t.length)
  rwa [show t.length+(5 - t.length)=5 by omega] at this
theorem qet (t:B):∀n,q3g t n≤n∧q3g t n≤t.length
 | 0=>⟨Nat.le_refl _,Nat.zero_le _⟩
 | n+1=>by
   have:=qet t n
   simp only[q3g]
   split
   ·rename_i h;simp at h;omega
   ·omega
theorem qj3 (t:B):held t≤5∧held t≤t.length:=qet t 5
def qwe:IC:=sR [oP 2 (.mv (.c i0))] (.seq (sR [mV 4 0,oP 5 (.lens (.t 4)),oP 6 (.mn (cI 5) (.t 5)),mV 3 6] (.block 0 (.loop (.seq (sR [mV 7 3,oP 8 (.bin .gtr (.t 7) (.c i0))] (cD 8 .skip (.exit 0))) (.seq (.block 1 (sR [mV 11 0,mV 12 0,oP 13 (.lens (.t 12)),mV 14 3,bN 15 .sub 13 14,oP 16 (.sls (.t 11) (some (.t 15)) none),oP 17 (.call 187 [.t 16])] (cD 17 (sR [mV 18 3,mV 2 18] .ret) .skip))) (.reg [mV 9 3,oP 10 (.bin .sub (.t 9) (cI 1)),mV 3 10])))))) (sR [oP 2 (.mv (.c i0))] .ret))
theorem dg161:Dg Tryz.prog 161 Tryz.f161 qwe [(.t 2)]:=⟨Tryz.func161,by kernel_rfl,by kernel_rfl⟩
theorem c161 (t:B) (hl:t.length≤2000000:=by omega):FnR Tryz.prog G 161 [.str t] (.int .i64 (held t)):=by
 refine mF dg161 Tryz.ntmps161 ?_
 simp only[qwe,go_sem]
 refine q0d (λk:Nat=>⟨q0e [(0,.str t),(3,.int .i64 (k:Int))],q01 []⟩) (λk=>k) (λk=>k≤t.length∧held t=q3g t k) (min 5 t.length) (leQ []) ⟨Nat.min_le_right _ _,qee t⟩ ?_
 intro k ⟨hk,ha⟩
 simp only[go_sem]
 by_cases h:(0:Int)<k
 ·simp only[eq_true h,go_sem]
  with_reducible repeat' (first|refine br ?_ ?_<;>intro h e<;>(try simp only[e,go_sem])<;>clear e|rw[q00 (by omega)]|refine sd ?_<;>try simp only[go_sem]|fail)
  have e:((t.length:Int) - (k:Int)).toNat=t.length - k:=by omega
  obtain⟨k,rfl⟩:∃m,k=m+1:=⟨k - 1,by omega⟩
  simp only[e,go_sem,List.take_length]
  have hst:=q9n hk
  refine q0m (c187 _ (by intro h;have:=congrArg List.length h;simp at this;omega) (by simp;omega)) rfl rfl ?_
  simp only[go_sem]
  with_reducible repeat' (first|refine br ?_ ?_<;>intro h e<;>(try simp only[e,go_sem])<;>clear e|rw[q00 (by omega)]|refine sd ?_<;>try simp only[go_sem]|fail)
  ·rw[ha,hst,if_pos h]
  ·refine⟨k,by omega,⟨by omega,by rw[ha,hst,h];rfl⟩,(leQ [])⟩
 ·simp only[eq_false h,go_sem]
  have:k=0:=by omega
  subst this
  rw[ha];rfl
def qxb:IC:=sR [oP 2 (.mv (.c i0))] (.seq (sR [mV 4 0,oP 5 (.lens (.t 4)),oP 6 (.mn (cI 5) (.t 5)),mV 3 6] (.block 0 (.loop (.seq (sR [mV 7 3,oP 8 (.bin .gtr (.t 7) (.c i0))] (cD 8 .skip (.exit 0))) (.seq (.block 1 (sR [mV 11 0,mV 12 0,oP 13 (.lens (.t 12)),mV 14 3,bN 15 .sub 13 14,oP 16 (.sls (.t 11) (some (.t 15)) none),oP 17 (.call 196 [.t 16])] (cD 17 (sR [mV 18 3,mV 2 18] .ret) .skip))) (.reg [mV 9 3,oP 10 (.bin .sub (.t 9) (cI 1)),mV 3 10])))))) (sR [oP 2 (.mv (.c i0))] .ret))
theorem dg172:Dg Tryz.prog 172 Tryz.f172 qxb [(.t 2)]:=⟨Tryz.func172,by kernel_rfl,by kernel_rfl⟩
theorem c172 (t:B) (hl:t.length≤2000000:=by omega):FnR Tryz.prog G 172 [.str t] (.int .i64 (held t)):=by
 refine mF dg172 Tryz.ntmps172 ?_
 simp only[qxb,go_sem]
 refine q0d (λk:Nat=>⟨q0e [(0,.str t),(3,.int .i64 (k:Int))],q01 []⟩) (λk=>k) (λk=>k≤t.length∧held t=q3g t k) (min 5 t.length) (leQ []) ⟨Nat.min_le_right _ _,qee t⟩ ?_
 intro k ⟨hk,ha⟩
 simp only[go_sem]
 by_cases h:(0:Int)<k
 ·simp only[eq_true h,go_sem]
  with_reducible repeat' (first|refine br ?_ ?_<;>intro h e<;>(try simp only[e,go_sem])<;>clear e|rw[q00 (by omega)]|refine sd ?_<;>try simp only[go_sem]|fail)
  have e:((t.length:Int) - (k:Int)).toNat=t.length - k:=by omega
  obtain⟨k,rfl⟩:∃m,k=m+1:=⟨k - 1,by omega⟩
  simp only[e,go_sem,List.take_length]
  have hst:=q9n hk
  with_reducible repeat' (first|refine br ?_ ?_<;>intro h e<;>(try simp only[e,go_sem])<;>clear e|rw[q00 (by omega)]|refine sd ?_<;>try simp only[go_sem]|(first|refine cr (c196 ..) ?_)<;>try simp only[go_sem]|fail)
  ·rw[ha,hst,if_pos h]
  ·refine⟨k,by omega,⟨by omega,by rw[ha,hst,h];rfl⟩,(leQ [])⟩
 ·simp only[eq_false h,go_sem]
  have:k=0:=by omega
  subst this
  rw[ha];rfl
theorem qhf {a p:Int} (h:E.any ⟨a,p⟩=true):(0≤a∧a<100)∧(0≤p∧p<100):=by
 obtain⟨h1,h2,_⟩:=qi9 _ (E.any_iff.1 h)
 exact⟨h1,h2⟩
theorem qas {e:E}:e.text.length≤4:=by
 by_cases h:e.any=true
 ·rw[q7v h];split<;>omega
 ·simp[E.text,h]
def qx0:IC:=sR [oP 1 (.box 52 (.t 0)),oP 2 (.mv (.c s0))] (.seq (sR [lA 3 2 1,oP 4 (.call 88 [.t 3]),oP 5 (.un .not (.t 4))] (cD 5 (sR [oP 2 (.mv (.c s0))] .ret) .skip)) (.seq (.drw [0,1,3,7,0,16,55,127,255] [(0,fD 6 0 1),(1,lD 7 1 6),(2,oP 8 (.call 218 [.t 7])),(3,oP 9 (.bin .add (.t 8) (.c (.str [58])))),(4,fD 10 1 1),(5,lD 11 1 10),(6,oP 12 (.call 218 [.t 11])),(7,bN 13 .add 9 12),(8,mV 2 13)]) .ret))
theorem dg210:Dg Tryz.prog 210 Tryz.f210 qx0 [(.t 2)]:=⟨Tryz.func210,by kernel_rfl,by kernel_rfl⟩
theorem c210 (a p:Int):FnR Tryz.prog G 210 [.agg [.int .i64 a,.int .i64 p]] (.str (E.text ⟨a,p⟩)):=by
 refine mF dg210 Tryz.ntmps210 ?_
 simp only[qx0,go_sem]
 refine q0m (c88 ..) rfl rfl ?_
 have d1:=qac a
 have d2:=qac p
 cases h:E.any ⟨a,p⟩<;>simp only[go_sem]
 ·simp[E.text,h]
 ·obtain⟨h1,h2⟩:=qhf h
  repeat' (first
   | (with_reducible refine q4t ?_ ?_;· kernel_rfl;try simp only[go_sem])
   | (with_reducible refine pureG (by simp;omega) ?_;try simp only[go_sem])
   | (refine q0m (c218 _ (by omega)) rfl rfl ?_;try simp only[go_sem]))
  simp[E.text,h]
def qtq:IC:=sR [oP 1 (.box 52 (.t 0)),oP 2 (.mv (.c s0))] (.seq (sR [lA 3 2 1,oP 4 (.call 110 [.t 3]),oP 5 (.un .not (.t 4))] (cD 5 (sR [oP 2 (.mv (.c s0))] .ret) .skip)) (.seq (.drw [0,1,3,7,0,16,55,127,255] [(0,fD 6 0 1),(1,lD 7 1 6),(2,oP 8 (.call 214 [.t 7])),(3,oP 9 (.bin .add (.t 8) (.c (.str [58])))),(4,fD 10 1 1),(5,lD 11 1 10),(6,oP 12 (.call 214 [.t 11])),(7,bN 13 .add 9 12),(8,mV 2 13)]) .ret))
theorem dg205:Dg Tryz.prog 205 Tryz.f205 qtq [(.t 2)]:=⟨Tryz.func205,by kernel_rfl,by kernel_rfl⟩
theorem c205 (a p:Int):FnR Tryz.prog G 205 [.agg [.int .i64 a,.int .i64 p]] (.str (E.text ⟨a,p⟩)):=by
 refine mF dg205 Tryz.ntmps205 ?_
 simp only[qtq,go_sem]
 refine q0m (c110 ..) rfl rfl ?_
 have d1:=qac a
 have d2:=qac p
 cases h:E.any ⟨a,p⟩<;>simp only[go_sem]
 ·simp[E.text,h]
 ·obtain⟨h1,h2⟩:=qhf h
  repeat' (first
   | (with_reducible refine q4t ?_ ?_;· kernel_rfl;try simp only[go_sem])
   | (with_reducible refine pureG (by simp;omega) ?_;try simp only[go_sem])
   | (refine q0m (c214 _ (by omega)) rfl rfl ?_;try simp only[go_sem]))
  simp[E.text,h]
def qy5:IC:=sR [oP 1 (.box 52 (.t 0)),oP 2 (.mv (.c s0))] (sR [lA 3 2 1,oP 4 (.call 205 [.t 3]),oP 5 (.bin .add (.c (.str [64])) (.t 4)),oP 6 (.bin .add (.t 5) (.c (.str [59]))),mV 2 6] .ret)
theorem dg190:Dg Tryz.prog 190 Tryz.f190 qy5 [(.t 2)]:=⟨Tryz.func190,by kernel_rfl,by kernel_rfl⟩
theorem c190 (a p:Int):FnR Tryz.prog G 190 [.agg [.int .i64 a,.int .i64 p]] (.str (name ⟨a,p⟩)):=by
 refine mF dg190 Tryz.ntmps190 ?_
 simp only[qy5,go_sem]
 have d:=qas (e:=⟨a,p⟩)
 refine q0m (c205 ..) rfl rfl ?_
 simp only[go_sem]
 repeat' (with_reducible refine pureG (by simp;omega) ?_;try simp only[go_sem])
 simp[name]
theorem qa2 {t:B} {a p:Int} (h:E.text ⟨a,p⟩=t) (h1:E.any ⟨a,p⟩=true):q10 t=some ⟨a,p⟩:=by rw[←h];exact q55 h1
def q6e (t:B) (i:Nat):Int:=if i≤2 then 0 else if i=3 then dig (t.getD 2 0) else 10*dig (t.getD 2 0)+dig (t.getD 3 0)
theorem qk9:∀e∈qge,dig (e.text.getD 0 0)=e.a∧q6e e.text e.text.length=e.p:=by decide
theorem qhs (b:UInt8) : -1≤dig b∧dig b≤9:=by
 unfold dig q5x
 split
 ·rename_i h
  simp only[UInt8.le_iff_toNat_le,Bool.and_eq_true,decide_eq_true_eq] at h
  have h1:(48:UInt8).toNat=48:=rfl
  have h3:(57:UInt8).toNat=57:=rfl
  omega
 ·omega
def qyv:IC:=sR [oP 2 (.alloc 52 [i0,i0]),oP 3 (.mv cF)] (sR [mV 7 0,oP 8 (.lens (.t 7)),mV 4 8] (.seq (sR [mV 9 4,oP 10 (.call 20 [.t 9,cI 3,cI 4]),oP 11 (.un .not (.t 10))] (cD 11 (sR [oP 12 (.build [i0,i0] []),nP (.sto 2 (.t 2) (.t 12)),oP 3 (.mv cF)] .ret) .skip)) (sR [mV 13 0,oP 14 (.idx (.t 13) (.c i0)),oP 15 (.call 209 [.t 14]),oP 16 (.build [i0,i0] [(0,(1,.t 15))]),oP 5 (.alloc 52 [i0,i0]),nP (.sto 2 (.t 5) (.t 16))] (.seq (sR [oP 6 (.mv (cI 2))] (.block 0 (.loop (.seq (sR [mV 17 6,mV 18 4,bN 19 .lss 17 18] (cD 19 .skip (.exit 0))) (.seq (.block 1 (.drw [0,1,3,0,0,24,56,127,255,511] [(0,fD 22 1 5),(1,lD 23 1 22),(2,oP 24 (.bin .mul (cI 10) (.t 23))),(3,mV 25 0),(4,mV 26 6),(5,oP 27 (.idx (.t 25) (.t 26))),(6,oP 28 (.call 209 [.t 27])),(7,bN 29 .add 24 28),(8,fD 30 1 5),(9,nP (.sto 1 (.t 30) (.t 29)))])) (.reg [mV 20 6,oP 21 (.bin .add (.t 20) (cI 1)),mV 6 21])))))) (.seq (sR [lA 31 2 5,oP 32 (.call 210 [.t 31]),mV 33 0,bN 34 .neq 32 33] (cD 34 (sR [oP 35 (.build [i0,i0] []),nP (.sto 2 (.t 2) (.t 35)),oP 3 (.mv cF)] .ret) .skip)) (sR [lA 36 2 5,nP (.sto 2 (.t 2) (.t 36)),oP 3 (.mv cT)] .ret))))))
theorem dg197:Dg Tryz.prog 197 Tryz.f197 qyv [(.cell 2 2 true),(.t 3)]:=⟨Tryz.func197,by kernel_rfl,by kernel_rfl⟩
theorem c197 (t:B) (hl:t.length≤2000000:=by omega):FnR Tryz.prog G 197 [.str t] (rdV (q10 t)):=by
 refine mF dg197 Tryz.ntmps197 ?_
 have hlen:∀e,q10 t=some e→3≤t.length∧t.length≤4:=λe he=>by
  obtain⟨h1,h2⟩:=q1p he
  have:=q7v h1
  rw[h2] at this
  split at this<;>omega
 simp only[qyv,go_sem]
 refine q0m (c20 ..) rfl rfl ?_
 simp only[go_sem]
 cases hw:q0j t.length 3 4<;>simp only[go_sem]
 ·have:q10 t=none:=by
   cases h:q10 t with
   | none=>rfl
   | some e =>
     have:=hlen e h
     have:q0j t.length 3 4=true:=M.within_iff.2 (by omega)
     rw[hw] at this;cases this
  simp[this,rdV,go_sem,E.zero]
 ·rw[M.within_iff] at hw
  with_reducible repeat' (first|refine br ?_ ?_<;>intro h e<;>(try simp only[e,go_sem])<;>clear e|rw[q00 (by omega)]|refine sd ?_<;>try simp only[go_sem]|(first|refine cr (qrk ..) ?_)<;>try simp only[go_sem]|fail)
  refine q0d (λi:Nat=>⟨q0e [(0,.str t),(2,.pv 3000002 0),(4,.int .i64 t.length),(5,.pv 3000005 0),(6,.int .i64 (i:Int))],q01 [(3000002,.var 52 [.int .i64 0,.int .i64 0]),(3000005,.var 52 [.int .i64 (dig (t.getD 0 0)),.int .i64 (q6e t i)])]⟩) (λi=>t.length - i) (λi=>2≤i∧i≤t.length) 2 (leQ []) ⟨by omega,by omega⟩ ?_
  intro i ⟨hi,hil⟩
  simp only[go_sem]
  have dr:=qhs (t.getD i 0)
  have dr2:=qhs (t.getD 2 0)
  have pi:i<t.length → -10≤q6e t i∧q6e t i≤9∧q6e t (i+1)=10*q6e t i+dig (t.getD i 0):=λh=>by
   have:i=2∨i=3:=by omega
   rcases this with rfl|rfl<;>simp[q6e] at dr dr2 ⊢<;>omega
  by_cases h:(i:Int)<t.length
  ·simp only[eq_true h,go_sem]
   obtain⟨p1,p2,p3⟩:=pi (by omega)
   with_reducible repeat' (first|refine br ?_ ?_<;>intro h e<;>(try simp only[e,go_sem])<;>clear e|rw[q00 (by omega)]|refine sd ?_<;>try simp only[go_sem]|(first|refine cr (qrk ..) ?_)<;>try simp only[go_sem]|fail)
   refine⟨i+1,by omega,⟨by omega,by omega⟩,(leQ [])⟩
  ·simp only[eq_false h,go_sem]
   have:i=t.length:=by omega
   subst this
   refine q0m (c210 ..) rfl rfl ?_
   simp only[go_sem]
   with_reducible repeat' (first|refine br ?_ ?_<;>intro h e<;>(try simp only[e,go_sem])<;>clear e|rw[q00 (by omega)]|refine sd ?_<;>try simp only[go_sem]|fail)
   ·have ha:E.any ⟨dig (t.getD 0 0),q6e t t.length⟩=true:=by
     cases hc:E.any ⟨dig (t.getD 0 0),q6e t t.length⟩ with
     | true=>rfl
     | false =>
       exfalso
       simp only[E.text,hc] at h
       rw[←h] at hw
       simp at hw
    simp[qa2 h ha,rdV,go_sem]
   ·have hn:q10 t=none:=by
     cases hr:q10 t with
     | none=>rfl
     | some e =>
       exfalso
       obtain⟨e1,e2⟩:=q1p hr
       obtain⟨d1,d2⟩:=qk9 e (E.any_iff.1 e1)
       rw[e2] at d1 d2
       rw[d1,d2] at h
       exact h e2
    simp[hn,rdV,go_sem,E.zero]
def qt8:IC:=sR [oP 2 (.alloc 52 [i0,i0]),oP 3 (.mv cF)] (sR [mV 13 0,oP 14 (.call 203 [.t 13,.c (.str [58])]),mV 12 14,eX 15 12 0,eX 16 12 1,eX 17 12 2,mV 4 15,mV 5 16,mV 6 17] (sR [mV 19 4,oP 20 (.call 213 [.t 19]),mV 18 20,eX 21 18 0,eX 22 18 1,mV 7 21,mV 8 22] (sR [mV 24 5,oP 25 (.call 213 [.t 24]),mV 23 25,eX 26 23 0,eX 27 23 1,mV 9 26,mV 10 27] (sR [mV 28 7,mV 29 9,oP 30 (.build [i0,i0] [(0,(1,.t 28)),(1,(1,.t 29))]),oP 11 (.alloc 52 [i0,i0]),nP (.sto 2 (.t 11) (.t 30))] (.seq (sR [mV 31 8,oP 32 (.isn true (.t 31)),mV 33 32,gF 34 33 (.mv (.t 10)),gF 35 33 (.isn true (.t 34)),pT 36 33 35,mV 37 36,gF 38 37 (.ld 2 true (.t 11)),gF 39 37 (.call 110 [.t 38]),gF 40 37 (.un .not (.t 39)),pT 41 37 40,mV 42 41,gF 43 42 (.ld 2 true (.t 11)),gF 44 42 (.call 205 [.t 43]),gF 45 42 (.mv (.t 0)),gF 46 42 (.bin .neq (.t 44) (.t 45)),pT 47 42 46] (cD 47 (sR [oP 48 (.build [i0,i0] []),nP (.sto 2 (.t 2) (.t 48)),oP 3 (.mv cF)] .ret) .skip)) (sR [lA 49 2 11,nP (.sto 2 (.t 2) (.t 49)),oP 3 (.mv cT)] .ret))))))
theorem dg204:Dg Tryz.prog 204 Tryz.f204 qt8 [(.cell 2 2 true),(.t 3)]:=⟨Tryz.func204,by kernel_rfl,by kernel_rfl⟩
theorem c204 (t:B) (hl:t.length≤2000000:=by omega):FnR Tryz.prog G 204 [.str t] (rdV (q10 t)):=by
 refine mF dg204 Tryz.ntmps204 ?_
 simp only[qt8,go_sem]
 refine q0m (c203 t 58) rfl rfl ?_
 simp only[go_sem]
 have hcl:(q92 t 58).1.length≤2000000∧(q92 t 58).2.1.length≤2000000:=by
  have:=qdo t 58
  omega
 have hr:∀e,q10 t=some e→(q92 t 58).1=dec e.a∧(q92 t 58).2.1=dec e.p∧(0≤e.a∧e.a<100)∧(0≤e.p∧e.p<100):=λe he=>by
  obtain⟨h1,h2,h3⟩:=qdd he
  rw[h1];exact⟨rfl,rfl,h2,h3⟩
 refine qgz (c213 _ (by omega)) rfl (λr o hp=>⟨by rcases hp.2 with⟨n,rfl,_⟩|⟨n,rfl,_⟩<;>rfl,hp.1⟩) (λr1 hp1=>?_)
 rcases hp1.2 with⟨n1,rfl,hn1⟩|⟨n1,rfl,hn1⟩<;>simp only[go_sem] <;>
  (refine qgz (c213 _ (by omega)) rfl (λr o hp=>⟨by rcases hp.2 with⟨n,rfl,_⟩|⟨n,rfl,_⟩<;>rfl,hp.1⟩) (λr2 hp2=>?_)
   rcases hp2.2 with⟨n2,rfl,hn2⟩|⟨n2,rfl,hn2⟩<;>simp only[go_sem])
 ·have hx:∀e,q10 t=some e→n1=e.a∧n2=e.p:=λe he=>by
   obtain⟨a1,a2,a3,a4⟩:=hr e he
   exact⟨hn1 _ a3.1 a3.2 a1,hn2 _ a4.1 a4.2 a2⟩
  with_reducible repeat' (first|refine br ?_ ?_<;>intro h e<;>(try simp only[e,go_sem])<;>clear e|rw[q00 (by omega)]|refine sd ?_<;>try simp only[go_sem]|(first|refine cr (c110 ..) ?_|refine cr (c205 ..) ?_)<;>try simp only[go_sem]|fail)
  ·have hn:q10 t=none:=by
    cases hr2:q10 t with
    | none=>rfl
    | some e =>
      exfalso
      obtain⟨rfl,rfl⟩:=hx e hr2
      rw[(q1p hr2).1] at h
      cases h
   simp[hn,rdV,go_sem,E.zero]
  ·rename_i ha
   simp[qa2 h (by simpa using ha),rdV,go_sem]
  ·have hn:q10 t=none:=by
    cases hr2:q10 t with
    | none=>rfl
    | some e =>
      exfalso
      obtain⟨rfl,rfl⟩:=hx e hr2
      exact h (q1p hr2).2
   simp[hn,rdV,go_sem,E.zero]
 all_goals
  have hn:q10 t=none:=by
   cases hr2:q10 t with
   | none=>rfl
   | some e =>
     exfalso
     obtain⟨a1,a2,a3,a4⟩:=hr e hr2
     first|exact hn1 _ a3.1 a3.2 a1|exact hn2 _ a4.1 a4.2 a2
  simp[hn,rdV,go_sem,E.zero]
def qsq:IC:=sR [oP 2 (.alloc 52 [i0,i0]),oP 3 (.mv (.c i0))] (.seq (sR [oP 4 (.mv (cI 5))] (.block 0 (.loop (.seq (sR [mV 7 4,oP 8 (.bin .leq (.t 7) (cI 6)),mV 9 8,gT 10 9 (.mv (.t 4)),gT 11 9 (.mv (.t 0)),gT 12 9 (.lens (.t 11)),gT 13 9 (.bin .leq (.t 10) (.t 12)),pF 14 9 13] (cD 14 .skip (.exit 0))) (.seq (.block 1 (sR [mV 17 0,oP 18 (.idx (.t 17) (.c i0)),oP 19 (.bin .eql (.t 18) (.c (.int .u8 64))),mV 20 19,gT 21 20 (.mv (.t 0)),gT 22 20 (.mv (.t 4)),gT 23 20 (.bin .sub (.t 22) (cI 1)),gT 24 20 (.idx (.t 21) (.t 23)),gT 25 20 (.bin .eql (.t 24) (.c (.int .u8 59))),pF 26 20 25] (cD 26 (sR [mV 28 0,mV 29 4,oP 30 (.bin .sub (.t 29) (cI 1)),oP 31 (.sls (.t 28) (some (cI 1)) (some (.t 30))),oP 32 (.call 197 [.t 31]),mV 27 32,eX 33 27 0,eX 34 27 1,oP 5 (.alloc 52 [i0,i0]),nP (.sto 2 (.t 5) (.t 33)),mV 6 34] (sR [mV 35 6] (cD 35 (sR [lA 36 2 5,mV 37 4,nP (.sto 2 (.t 2) (.t 36)),mV 3 37] .ret) .skip))) .skip))) (.reg [mV 15 4,oP 16 (.bin .add (.t 15) (cI 1)),mV 4 16])))))) (sR [oP 38 (.build [i0,i0] []),nP (.sto 2 (.t 2) (.t 38)),oP 3 (.mv (.c i0))] .ret))
theorem dg174:Dg Tryz.prog 174 Tryz.f174 qsq [(.cell 2 2 true),(.t 3)]:=⟨Tryz.func174,by kernel_rfl,by kernel_rfl⟩
theorem q5b {s:B} {e:E} (h:q15 s=some e):∃k,(k=3∨k=4)∧e.text.length=k∧s.getD 0 0=64∧s.getD (k+1) 0=59∧(s.take (k+1)).drop 1=e.text∧k+2≤s.length:=by
 obtain⟨h1,r,rfl⟩:=q2s h
 have hl:=q7v h1
 refine⟨e.text.length,by rw[hl];split<;>simp,rfl,by simp[name], ?_, ?_, ?_⟩
 ·simp[name,List.getD]
 ·simp[name]
 ·simp[name]
theorem qgr {s:B} {e:E} {k:Nat} (h0:s.getD 0 0=64) (h1:s.getD (k+1) 0=59) (h2:q10 ((s.take (k+1)).drop 1)=some e) (hl:k+2≤s.length):q15 s=some e:=by
 obtain⟨c,r,rfl⟩:∃c r,s=c::r:=by cases s with|nil=>simp at hl|cons c r=>exact⟨c,r,rfl⟩
 obtain⟨a1,a2⟩:=q1p h2
 simp only[List.getD_cons_zero] at h0
 subst h0
 simp only[List.getD_cons_succ,zC,List.take_succ_cons,List.drop_succ_cons,List.drop_zero] at h1 h2 hl a2
 have:(64::r:B)=name e++r.drop (k+1):=by
  simp only[name,a2,List.cons_append,List.cons.injEq,true_and,List.append_assoc]
  have hk:r[k]?=some 59:=by
   have:k<r.length:=by omega
   simp[List.getD,this] at h1 ⊢
   exact h1
  conv=>lhs;rw[←List.take_append_drop k r]
  congr 1
  rw[List.drop_eq_getElem_cons (show k<r.length by omega)]
  simp[zE (show k<r.length by omega)] at hk
  simp[hk]
 rw[this]
 exact q64 a1 _
theorem c174 (s:B) (hs:s≠[]) (hl:s.length≤2000000:=by omega):FnR Tryz.prog G 174 [.str s] (.tup [.agg [.int .i64 ((q15 s).getD .zero).a,.int .i64 ((q15 s).getD .zero).p],.int .i64 (match q15 s with|some e=>(name e).length|none=>0)]):=by
 refine mF dg174 Tryz.ntmps174 ?_
 simp only[qsq,go_sem]
 have hp:1≤s.length:=List.length_pos_iff.2 hs
 refine q0d (λi:Nat=>⟨q0e [(0,.str s),(2,.pv 3000002 0),(4,.int .i64 (i:Int))],q01 [(3000002,.var 52 [.int .i64 0,.int .i64 0])]⟩) (λi=>7 - i) (λi=>5≤i∧i≤7∧∀e,q15 s=some e→i≤e.text.length+2) 5 (leQ []) ⟨by omega,by omega,λe he=>by obtain⟨k,h1,h2,_⟩:=q5b he;omega⟩ ?_
 intro i ⟨h5,h7,hn⟩
 simp only[go_sem]
 obtain⟨k,rfl⟩:∃k,i=k+2:=⟨i - 2,by omega⟩
 have e2:(((k+2:Nat):Int) - 1).toNat=k+1:=by omega
 with_reducible repeat' (first|refine br ?_ ?_<;>intro h e<;>(try simp only[e,go_sem])<;>clear e|rw[q00 (by omega)]|refine sd ?_<;>try simp only[go_sem]|fail)
 ·rename_i g0
  simp only[e2] at *
  refine q0m (c197 _ (by simp;omega)) rfl rfl ?_
  simp only[go_sem]
  have g1:s.getD 0 0=64:=UInt8.toNat_inj.1 (Int.ofNat_inj.1 g0)
  have g2:s.getD (k+1) 0=59:=UInt8.toNat_inj.1 (Int.ofNat_inj.1 h)
  have hk:k+2≤s.length:=by omega
  cases hr:q10 ((s.take (k+1)).drop 1) with
  | some e =>
    have he:=qgr g1 g2 hr hk
    obtain⟨a1,a2⟩:=q1p hr
    simp only[go_sem,Option.isSome_some,he,Option.getD_some]
    have:(name e).length=k+2:=by rw[name];simp[a2];omega
    simp[this]
  | none =>
    simp only[go_sem,Option.isSome_none]
    with_reducible repeat' (first|refine br ?_ ?_<;>intro h e<;>(try simp only[e,go_sem])<;>clear e|rw[q00 (by omega)]|refine sd ?_<;>try simp only[go_sem]|fail)
    refine⟨k+3,by omega,⟨by omega,by omega,λe he=>?_⟩,(leQ [])⟩
    obtain⟨k',b1,b2,b3,b4,b5,b6⟩:=q5b he
    have:=hn e he
    rcases Nat.lt_or_ge k k' with h|h
    ·omega
    ·exfalso
     have:k'=k:=by omega
     subst this
     rw[b5,q55 (q2s he).1] at hr
     cases hr
 ·refine⟨k+3,by omega,⟨by omega,by omega,λe he=>?_⟩,(leQ [])⟩
  obtain⟨k',b1,b2,b3,b4,b5,b6⟩:=q5b he
  have:=hn e he
  rcases Nat.lt_or_ge k k' with h|h
  ·omega
  ·exfalso
   have:k'=k:=by omega
   subst this
   rename_i hq
   rw[e2,b4] at hq
   exact absurd rfl hq
 ·refine⟨k+3,by omega,⟨by omega,by omega,λe he=>?_⟩,(leQ [])⟩
  obtain⟨k',b1,b2,b3,b4,b5,b6⟩:=q5b he
  rw[b3] at h
  exact absurd rfl h
 ·have:q15 s=none:=by
   cases hq:q15 s with
   | none=>rfl
   | some e =>
     obtain⟨k',b1,b2,b3,b4,b5,b6⟩:=q5b hq
     have:=hn e hq
     omega
  simp[this,E.zero]
 ·have:q15 s=none:=by
   cases hq:q15 s with
   | none=>rfl
   | some e =>
     obtain⟨k',b1,b2,b3,b4,b5,b6⟩:=q5b hq
     have:=hn e hq
     omega
  simp[this,E.zero]
def qtp:IC:=sR [oP 2 (.alloc 52 [i0,i0]),oP 3 (.mv cF)] (sR [mV 10 0,oP 11 (.call 203 [.t 10,.c (.str [59])]),mV 9 11,eX 12 9 0,eX 13 9 1,eX 14 9 2,mV 4 12,mV 5 13,mV 6 14] (sR [mV 16 4,oP 17 (.call 204 [.t 16]),mV 15 17,eX 18 15 0,eX 19 15 1,oP 7 (.alloc 52 [i0,i0]),nP (.sto 2 (.t 7) (.t 18)),mV 8 19] (sR [lA 20 2 7,mV 21 6,mV 22 21,gT 23 22 (.mv (.t 8)),pF 24 22 23,nP (.sto 2 (.t 2) (.t 20)),mV 3 24] .ret)))
theorem dg189:Dg Tryz.prog 189 Tryz.f189 qtp [(.cell 2 2 true),(.t 3)]:=⟨Tryz.func189,by kernel_rfl,by kernel_rfl⟩
def rdN (s:B):Option E:=if 59∈s then q10 (s.takeWhile λb=>decide (b≠59)) else none
theorem c189 (s:B) (hl:s.length≤2000000:=by omega):FnR Tryz.prog G 189 [.str s] (.tup [.agg [.int .i64 ((q10 (q92 s 59).1).getD .zero).a,.int .i64 ((q10 (q92 s 59).1).getD .zero).p],.bool (rdN s).isSome]):=by
 refine mF dg189 Tryz.ntmps189 ?_
 simp only[qtp,go_sem]
 refine q0m (c203 s 59) rfl rfl ?_
 simp only[go_sem]
 have:=qdo s 59
 refine q0m (c204 (q92 s 59).1 (by omega)) rfl rfl ?_
 simp only[go_sem]
 with_reducible repeat' (first|refine br ?_ ?_<;>intro h e<;>(try simp only[e,go_sem])<;>clear e|rw[q00 (by omega)]|refine sd ?_<;>try simp only[go_sem]|fail)
 all_goals(simp only[q92] at *;split at h<;>rename_i hm<;>simp_all[rdN])
def qxe:IC:=sR [oP 2 (.alloc 169 [i0,.bool false,i0,i0])] (.seq (sR [mV 8 0,oP 9 (.call 188 [.t 8,.c (.str [64])]),mV 7 9,eX 10 7 0,eX 11 7 1,mV 3 10,mV 4 11] (sR [mV 12 4] (cD 12 (sR [mV 14 3,oP 15 (.call 189 [.t 14]),mV 13 15,eX 16 13 0,eX 17 13 1,oP 5 (.alloc 52 [i0,i0]),nP (.sto 2 (.t 5) (.t 16)),mV 6 17] (sR [mV 18 6] (cD 18 (.seq (.drw [0,1,3,0,15,31] [(0,lA 19 2 5),(1,oP 20 (.call 190 [.t 19])),(2,oP 21 (.lens (.t 20))),(3,lA 22 2 5),(4,oP 23 (.build [i0,.bool false,i0,i0] [(0,(1,.t 21)),(1,(1,cT)),(2,(2,.t 22))])),(5,nP (.sto 4 (.t 2) (.t 23)))]) .ret) .skip))) .skip))) (sR [oP 24 (.build [i0,.bool false,i0,i0] [(0,(1,cI 1))]),nP (.sto 4 (.t 2) (.t 24))] .ret))
theorem dg162:Dg Tryz.prog 162 Tryz.f162 qxe [(.cell 2 4 true)]:=⟨Tryz.func162,by kernel_rfl,by kernel_rfl⟩
theorem c162 (s:B) (hs:s≠[]) (hl:s.length≤2000000:=by omega):FnR Tryz.prog G 162 [.str s] (.agg [.int .i64 (pc1 s).size,.bool (pc1 s).named,.int .i64 (pc1 s).e.a,.int .i64 (pc1 s).e.p]):=by
 refine mF dg162 Tryz.ntmps162 ?_
 simp only[qxe,go_sem]
 obtain⟨c,r,rfl⟩:∃c r,s=c::r:=by cases s with|nil=>exact absurd rfl hs|cons c r=>exact⟨c,r,rfl⟩
 refine q0m (c188 _ _) rfl rfl ?_
 simp only[go_sem]
 simp only[zC] at hl
 have key:q15 (c::r)=if c=64 then rdN r else none:=by
  simp only[q15,rdN]
  by_cases hc:c=64<;>by_cases h59:59∈r<;>simp[hc,h59]
 by_cases hc:c=64
 ·subst hc
  have e1:List.isPrefixOf [64] (64::r:B)=true:=by simp[List.isPrefixOf]
  simp only[e1,go_sem]
  refine q0m (c189 r) rfl rfl ?_
  simp only[go_sem]
  rw[if_pos rfl] at key
  cases hn:rdN r with
  | some e =>
    rw[hn] at key
    have h59:59∈r:=by
     by_cases h:59∈r
     ·exact h
     ·simp[rdN,h] at hn
    have he:q10 (q92 r 59).1=some e:=by
     simp only[rdN,if_pos h59] at hn
     simp only[q92,if_pos h59];exact hn
    simp only[go_sem,Option.isSome_some,he,Option.getD_some]
    with_reducible repeat' (first|refine br ?_ ?_<;>intro h e<;>(try simp only[e,go_sem])<;>clear e|rw[q00 (by omega)]|refine sd ?_<;>try simp only[go_sem]|(first|refine cr (c190 ..) ?_)<;>try simp only[go_sem]|fail)
    simp[pc1,key]
  | none =>
    rw[hn] at key
    simp only[go_sem,Option.isSome_none]
    simp[pc1,key,E.zero]
 ·have e1:List.isPrefixOf [64] (c::r:B)=false:=by simp[List.isPrefixOf];exact λh=>hc h.symm
  rw[if_neg hc] at key
  simp only[e1,go_sem]
  simp[pc1,key,E.zero]
def qsj:IC:=sR [oP 2 (.mv (.c .nils))] (sR [oP 6 (.bsl 169 4 []),mV 3 6] (.seq (sR [mV 7 0,mV 8 0,oP 9 (.lens (.t 8)),mV 10 0,oP 11 (.call 161 [.t 10]),bN 12 .sub 9 11,oP 13 (.sls (.t 7) none (some (.t 12))),mV 4 13] (.block 0 (.loop (.seq (sR [mV 14 4,oP 15 (.bin .neq (.t 14) (.c s0))] (cD 15 .skip (.exit 0))) (.block 1 (sR [mV 16 4,oP 17 (.call 162 [.t 16]),oP 5 (.alloc 169 [i0,.bool false,i0,i0]),nP (.sto 4 (.t 5) (.t 17))] (sR [mV 18 3,lA 19 4 5,oP 20 (.bsl 169 4 [.t 19]),oP 21 (.app 169 4 (.t 18) (.t 20)),mV 3 21] (.reg [mV 22 4,fD 23 0 5,lD 24 1 23,oP 25 (.sls (.t 22) (some (.t 24)) none),mV 4 25])))))))) (sR [mV 26 3,oP 27 (.call 163 [.t 26]),mV 2 27] .ret)))
theorem dg139:Dg Tryz.prog 139 Tryz.f139 qsj [(.t 2)]:=⟨Tryz.func139,by kernel_rfl,by kernel_rfl⟩
theorem c139 (t:B) (hl:t.length≤2000000:=by omega):FnR Tryz.prog G 139 [.str t] (.sl 4 ((pieces t).map Pc.row)):=by
 refine mF dg139 Tryz.ntmps139 ?_
 simp only[qsj,go_sem]
 have hh:=qj3 t
 with_reducible repeat' (first|refine br ?_ ?_<;>intro h e<;>(try simp only[e,go_sem])<;>clear e|rw[q00 (by omega)]|refine sd ?_<;>try simp only[go_sem]|(first|refine cr (c161 ..) ?_)<;>try simp only[go_sem]|fail)
 have e0:((t.take ((t.length:Int) - (held t:Int)).toNat).drop 0)=body t:=by
  rw[List.drop_zero];unfold body;congr 1;omega
 refine q0d (λa:List Pc×B=>⟨q0e [(3,.own 3000006 a.1.length),(4,.str a.2)],q01 [(3000006,.arr 169 4 (a.1.map Pc.row))]⟩) (λa=>a.2.length) (λa=>a.1++pcs a.2=pieces t∧a.1.length+a.2.length≤t.length) ([],body t)
  (leN [] (by simp only[go_sem];first|done|exact e0.symm) (by simp only[go_sem];first|done|rfl) (by simp[q0f]) (by simp only[go_sem])) ⟨by rw[q3h];rfl,by have:=q4m t;simp;omega⟩ ?_
 intro⟨acc,rest⟩ ⟨h1,h2⟩
 simp only[go_sem]
 simp only at h1 h2
 by_cases hr:rest=[]
 ·subst hr
  simp only[go_sem]
  refine q34 (c163 (acc.map Pc.row)) [3000006] true (by simp only[go_sem];simp) (by simp only[List.mem_singleton];rintro c rfl;rfl) rfl (.inl rfl) ?_
  simp only[go_sem]
  rw[←h1,qhy,List.append_nil]
 ·simp only[eq_false hr,go_sem]
  refine q0m (c162 rest hr) rfl rfl ?_
  simp only[go_sem]
  obtain⟨p1,p2,p3⟩:=q37 hr
  with_reducible repeat' (first|refine br ?_ ?_<;>intro h e<;>(try simp only[e,go_sem])<;>clear e|rw[q00 (by omega)]|refine sd ?_<;>try simp only[go_sem]|fail)
  refine⟨(acc++[pc1 rest],rest.drop (pc1 rest).size),by simp;omega,⟨?_,by simp;omega⟩,leN [(3000006,3000021)] ?_ ?_ (by simp[q0f]) (by simp only[go_sem])⟩
  ·rw[←h1,q3q hr,List.append_assoc];rfl
  ·simp only[go_sem];simp
  ·simp only[go_sem];simp[Pc.row]
def qyi:IC:=sR [oP 2 (.mv (.c .nils))] (sR [oP 8 (.bsl 169 4 []),mV 3 8] (sR [mV 9 0,oP 10 (.lens (.t 9)),mV 11 0,oP 12 (.call 172 [.t 11]),bN 13 .sub 10 12,mV 4 13] (sR [oP 5 (.mv (.c i0))] (.seq (.block 0 (.loop (.seq (sR [mV 14 5,mV 15 4,bN 16 .lss 14 15] (cD 16 .skip (.exit 0))) (.block 1 (sR [mV 18 0,mV 19 5,mV 20 4,oP 21 (.sls (.t 18) (some (.t 19)) (some (.t 20))),oP 22 (.call 174 [.t 21]),mV 17 22,eX 23 17 0,eX 24 17 1,oP 6 (.alloc 52 [i0,i0]),nP (.sto 2 (.t 6) (.t 23)),mV 7 24] (.seq (sR [mV 25 7,oP 26 (.bin .gtr (.t 25) (.c i0))] (cD 26 (.reg [mV 27 3,mV 28 7,lA 29 2 6,oP 30 (.build [i0,.bool false,i0,i0] [(0,(1,.t 28)),(1,(1,cT)),(2,(2,.t 29))]),oP 31 (.bsl 169 4 [.t 30]),oP 32 (.app 169 4 (.t 27) (.t 31)),mV 3 32]) (sR [oP 7 (.mv (cI 1))] (.reg [mV 33 3,oP 34 (.build [i0,.bool false,i0,i0] [(0,(1,cI 1))]),oP 35 (.bsl 169 4 [.t 34]),oP 36 (.app 169 4 (.t 33) (.t 35)),mV 3 36])))) (.reg [mV 37 5,mV 38 7,bN 39 .add 37 38,mV 5 39]))))))) (sR [mV 40 3,mV 2 40] .ret)))))
theorem dg153:Dg Tryz.prog 153 Tryz.f153 qyi [(.t 2)]:=⟨Tryz.func153,by kernel_rfl,by kernel_rfl⟩
theorem c153 (t:B) (hl:t.length≤2000000:=by omega):FnR Tryz.prog G 153 [.str t] (.sl 4 ((pieces t).map Pc.row)):=by
 refine mF dg153 Tryz.ntmps153 ?_
 simp only[qyi,go_sem]
 have hh:=qj3 t
 with_reducible repeat' (first|refine br ?_ ?_<;>intro h e<;>(try simp only[e,go_sem])<;>clear e|rw[q00 (by omega)]|refine sd ?_<;>try simp only[go_sem]|(first|refine cr (c172 ..) ?_)<;>try simp only[go_sem]|fail)
 have hb:body t=t.take (t.length - held t):=rfl
 have hbl:=q4m t
 refine q0d (λa:List Pc×Nat=>⟨q0e [(0,.str t),(3,.own 3000008 a.1.length),(4,.int .i64 (body t).length),(5,.int .i64 (a.2:Int))],q01 [(3000008,.arr 169 4 (a.1.map Pc.row))]⟩) (λa=>(body t).length - a.2) (λa=>a.1++pcs ((body t).drop a.2)=pieces t∧a.1.length≤a.2∧a.2≤(body t).length) ([],0)
  (leN [] (by simp only[go_sem];first|done|omega) (by simp only[go_sem];first|done|rfl) (by simp[q0f]) (by simp only[go_sem])) ⟨by rw[q3h];rfl,by simp⟩ ?_
 intro⟨acc,i⟩ ⟨h1,h2,h3⟩
 simp only at h1 h2 h3
 simp only[go_sem]
 by_cases hr:(i:Int)<(body t).length
 ·simp only[eq_true hr,go_sem]
  with_reducible repeat' (first|refine br ?_ ?_<;>intro h e<;>(try simp only[e,go_sem])<;>clear e|rw[q00 (by omega)]|refine sd ?_<;>try simp only[go_sem]|fail)
  have e1:(t.take (body t).length).drop i=(body t).drop i:=by rw[hb];simp
  have hne:(body t).drop i≠[]:=by intro h;have:=congrArg List.length h;simp at this;omega
  simp only[e1]
  refine q0m (c174 _ hne (by simp;omega)) rfl rfl ?_
  simp only[go_sem]
  obtain⟨p1,p2,p3⟩:=q37 hne
  have hpc:=q3q hne
  simp only[List.length_drop] at p2
  have hdrop:((body t).drop i).drop (pc1 ((body t).drop i)).size=(body t).drop (i+(pc1 ((body t).drop i)).size):=by simp
  rw[hdrop] at hpc
  generalize hg:pc1 ((body t).drop i)=q at *
  have hgen:(q.size=(match q15 ((body t).drop i) with|some e=>(name e).length|none=>1))∧q=(match q15 ((body t).drop i) with|some e=>⟨(name e).length,true,e⟩|none=>⟨1,false,.zero⟩):=by
   rw[←hg];unfold pc1;cases q15 ((body t).drop i)<;>exact⟨rfl,rfl⟩
  have hnn:∀e,q15 ((body t).drop i)=some e→1≤(name e).length:=λe _=>by simp[name]
  cases hn:q15 ((body t).drop i) with
  | none =>
    rw[hn] at hgen
    obtain⟨hq1,hq2⟩:=hgen
    simp only at hq1 hq2
    simp only[go_sem]
    with_reducible repeat' (first|refine br ?_ ?_<;>intro h e<;>(try simp only[e,go_sem])<;>clear e|rw[q00 (by omega)]|refine sd ?_<;>try simp only[go_sem]|fail)
    refine⟨(acc++[q],i+1),by simp;omega,⟨?_,by simp;omega,by simp;omega⟩,leN [(3000008,3000036)] ?_ ?_ (by simp[q0f]) (by simp only[go_sem])⟩
    ·rw[←h1,hpc,hq1,List.append_assoc];rfl
    ·simp only[go_sem];simp
    ·simp only[go_sem];simp[Pc.row,hq2,E.zero]
  | some e =>
    rw[hn] at hgen
    obtain⟨hq1,hq2⟩:=hgen
    have hnl:=hnn e hn
    simp only at hq1 hq2
    simp only[go_sem,Option.getD_some]
    with_reducible repeat' (first|refine br ?_ ?_<;>intro h e<;>(try simp only[e,go_sem])<;>clear e|rw[q00 (by omega)]|refine sd ?_<;>try simp only[go_sem]|fail)
    ·refine⟨(acc++[q],i+(name e).length),by simp;omega,⟨?_,by simp;omega,by simp;omega⟩,leN [(3000008,3000032)] ?_ ?_ (by simp[q0f]) (by simp only[go_sem])⟩
     ·rw[←h1,hpc,hq1,List.append_assoc];rfl
     ·simp only[go_sem];simp
     ·simp only[go_sem];simp[Pc.row,hq2]
    ·omega
 ·simp only[eq_false hr,go_sem]
  have:i=(body t).length:=by omega
  subst this
  rw[←h1,List.drop_length,qhy,List.append_nil]
  exact⟨rfl,rfl⟩
def qu4:IC:=sR [oP 2 (.mv (.c .nils))] (.seq (sR [mV 3 0,oP 4 (.call 111 [.t 3]),oP 5 (.un .not (.t 4))] (cD 5 (sR [oP 2 (.mv (.c .nils))] .ret) .skip)) (sR [mV 6 0,oP 7 (.call 139 [.t 6]),mV 2 7] .ret))
theorem dg185:Dg Tryz.prog 185 Tryz.f185 qu4 [(.t 2)]:=⟨Tryz.func185,by kernel_rfl,by kernel_rfl⟩
theorem c185 (t:B) (hl:t.length≤2000000:=by omega):FnR Tryz.prog G 185 [.str t] (.sl 4 ((q1b t).map Pc.row)):=by
 refine mF dg185 Tryz.ntmps185 ?_
 simp only[qu4,go_sem]
 with_reducible repeat' (first|refine br ?_ ?_<;>intro h e<;>(try simp only[e,go_sem])<;>clear e|rw[q00 (by omega)]|refine sd ?_<;>try simp only[go_sem]|(first|refine cr (qpd ..) ?_|refine cr (c139 ..) ?_)<;>try simp only[go_sem]|fail)
 all_goals simp[q1b, *]
def qx3:IC:=sR [oP 2 (.mv (.c .nils))] (.seq (sR [mV 3 0,oP 4 (.call 89 [.t 3]),oP 5 (.un .not (.t 4))] (cD 5 (sR [oP 6 (.bsl 169 4 []),mV 2 6] .ret) .skip)) (sR [mV 7 0,oP 8 (.call 153 [.t 7]),mV 2 8] .ret))
theorem dg131:Dg Tryz.prog 131 Tryz.f131 qx3 [(.t 2)]:=⟨Tryz.func131,by kernel_rfl,by kernel_rfl⟩
theorem c131 (t:B) (hl:t.length≤2000000:=by omega):FnR Tryz.prog G 131 [.str t] (.sl 4 ((q1b t).map Pc.row)):=by
 refine mF dg131 Tryz.ntmps131 ?_
 simp only[qx3,go_sem]
 with_reducible repeat' (first|refine br ?_ ?_<;>intro h e<;>(try simp only[e,go_sem])<;>clear e|rw[q00 (by omega)]|refine sd ?_<;>try simp only[go_sem]|(first|refine cr (c89 ..) ?_|refine cr (c153 ..) ?_)<;>try simp only[go_sem]|fail)
 all_goals simp[q1b, *]
theorem q9a {l:List Pc} {i:Nat} (h:i<l.length):q3e (l.take (i+1))=q3e (l.take i)++(if(l.getD i default).named then [(l.getD i default).e] else []):=by
 unfold q3e
 rw[List.take_add_one,zE h]
 simp only[Option.toList_some,List.filter_append,List.map_append,List.getD,zE h,Option.getD_some]
 congr 1
 cases hn:l[i].named<;>simp[hn]
theorem q7s (l:List Pc):(q3e l).length≤l.length:=by
 simp only[q3e,List.length_map]
 exact List.length_filter_le _ _
def qvj:IC:=sR [oP 2 (.mv (.c .nils))] (sR [oP 6 (.bsl 52 2 []),mV 3 6] (.seq (sR [mV 7 0,oP 8 (.call 185 [.t 7]),oP 9 (.len (.t 8)),oP 10 (.mv (.c i0))] (.block 0 (.loop (sR [bN 11 .lss 10 9] (.seq (cD 11 .skip (.exit 0)) (.seq (.block 1 (sR [oP 12 (.iad 4 (.t 8) (.t 10)),lA 13 4 12,oP 5 (.alloc 169 [i0,.bool false,i0,i0]),nP (.sto 4 (.t 5) (.t 13))] (sR [fD 14 1 5,lD 15 1 14] (cD 15 (.reg [mV 16 3,fD 17 2 5,lA 18 2 17,oP 19 (.bsl 52 2 [.t 18]),oP 20 (.app 52 2 (.t 16) (.t 19)),mV 3 20]) .skip)))) (.reg [oP 21 (.bin .add (.t 10) (cI 1)),mV 10 21]))))))) (sR [mV 22 3,oP 23 (.call 186 [.t 22]),mV 2 23] .ret)))
theorem dg160:Dg Tryz.prog 160 Tryz.f160 qvj [(.t 2)]:=⟨Tryz.func160,by kernel_rfl,by kernel_rfl⟩
theorem c160 (t:B) (hl:t.length≤2000000:=by omega):FnR Tryz.prog G 160 [.str t] (.sl 2 ((q1n t).map E.row)):=by
 refine mF dg160 Tryz.ntmps160 ?_
 simp only[qvj,go_sem]
 with_reducible repeat' (first|refine br ?_ ?_<;>intro h e<;>(try simp only[e,go_sem])<;>clear e|rw[q00 (by omega)]|refine sd ?_<;>try simp only[go_sem]|(first|refine cr (c185 ..) ?_)<;>try simp only[go_sem]|fail)
 have hl2:=q22 t
 unfold q1n
 generalize hp:q1b t=l at *
 refine q0d (λi:Nat=>⟨q0e [(3,.own 3000006 (q3e (l.take i)).length),(8,.sl 4 (l.map Pc.row)),(9,.int .i64 l.length),(10,.int .i64 (i:Int))],q01 [(3000006,.arr 52 2 ((q3e (l.take i)).map E.row))]⟩) (λi=>l.length - i) (λi=>i≤l.length) 0 (leQ []) (Nat.zero_le _) ?_
 intro i hi
 simp only[go_sem]
 by_cases h:(i:Int)<l.length
 ·simp only[eq_true h,go_sem]
  refine effG (by omega) ?_
  have hst:=q9a (show i<l.length by omega)
  have hle:=q7s (l.take i)
  simp only[List.length_take] at hle
  generalize hq:l.getD i default=q at hst ⊢
  simp only[go_sem]
  cases hn:q.named<;>simp only[hn,go_sem,Bool.false_eq_true] at hst ⊢
  ·with_reducible repeat' (first|refine br ?_ ?_<;>intro h e<;>(try simp only[e,go_sem])<;>clear e|rw[q00 (by omega)]|refine sd ?_<;>try simp only[go_sem]|fail)
   refine⟨i+1,by omega,by omega,leN [] ?_ ?_ (by simp[q0f]) (by simp only[go_sem])⟩
   ·simp only[go_sem,hst];omega
   ·simp only[go_sem,hst]
  ·with_reducible repeat' (first|refine br ?_ ?_<;>intro h e<;>(try simp only[e,go_sem])<;>clear e|rw[q00 (by omega)]|refine sd ?_<;>try simp only[go_sem]|fail)
   refine⟨i+1,by omega,by omega,leN [(3000006,3000020)] ?_ ?_ (by simp[q0f]) (by simp only[go_sem])⟩
   ·simp only[go_sem,hst];simp
   ·simp only[go_sem,hst];simp[E.row]
 ·simp only[eq_false h,go_sem]
  have:i=l.length:=by omega
  subst this
  refine q34 (c186 ((q3e l).map E.row)) [3000006] true (by simp only[go_sem];simp) (by simp only[List.mem_singleton];rintro c rfl;rfl) rfl (.inl rfl) ?_
  simp only[go_sem]
def qup:IC:=sR [oP 2 (.mv (.c .nils))] (sR [oP 6 (.bsl 52 2 []),mV 3 6] (sR [mV 7 0,oP 8 (.call 131 [.t 7]),mV 4 8] (.seq (sR [oP 5 (.mv (.c i0))] (.block 0 (.loop (.seq (sR [mV 9 5,mV 10 4,oP 11 (.len (.t 10)),bN 12 .lss 9 11] (cD 12 .skip (.exit 0))) (.seq (.block 1 (sR [mV 15 4,mV 16 5,oP 17 (.iad 4 (.t 15) (.t 16)),fD 18 1 17,lD 19 1 18] (cD 19 (.reg [mV 20 3,mV 21 4,mV 22 5,oP 23 (.iad 4 (.t 21) (.t 22)),fD 24 2 23,lA 25 2 24,oP 26 (.bsl 52 2 [.t 25]),oP 27 (.app 52 2 (.t 20) (.t 26)),mV 3 27]) .skip))) (.reg [mV 13 5,oP 14 (.bin .add (.t 13) (cI 1)),mV 5 14])))))) (sR [mV 28 3,mV 2 28] .ret))))
theorem dg173:Dg Tryz.prog 173 Tryz.f173 qup [(.t 2)]:=⟨Tryz.func173,by kernel_rfl,by kernel_rfl⟩
theorem c173 (t:B) (hl:t.length≤2000000:=by omega):FnR Tryz.prog G 173 [.str t] (.sl 2 ((q1n t).map E.row)):=by
 refine mF dg173 Tryz.ntmps173 ?_
 simp only[qup,go_sem]
 with_reducible repeat' (first|refine br ?_ ?_<;>intro h e<;>(try simp only[e,go_sem])<;>clear e|rw[q00 (by omega)]|refine sd ?_<;>try simp only[go_sem]|(first|refine cr (c131 ..) ?_)<;>try simp only[go_sem]|fail)
 have hl2:=q22 t
 unfold q1n
 generalize hp:q1b t=l at *
 refine q0d (λi:Nat=>⟨q0e [(3,.own 3000006 (q3e (l.take i)).length),(4,.sl 4 (l.map Pc.row)),(5,.int .i64 (i:Int))],q01 [(3000006,.arr 52 2 ((q3e (l.take i)).map E.row))]⟩) (λi=>l.length - i) (λi=>i≤l.length) 0 (leQ []) (Nat.zero_le _) ?_
 intro i hi
 simp only[go_sem]
 by_cases h:(i:Int)<l.length
 ·simp only[eq_true h,go_sem]
  refine effG (by omega) ?_
  have hst:=q9a (show i<l.length by omega)
  have hle:=q7s (l.take i)
  simp only[List.length_take] at hle
  generalize hq:l.getD i default=q at hst ⊢
  simp only[go_sem]
  cases hn:q.named<;>simp only[hn,go_sem,Bool.false_eq_true] at hst ⊢
  ·with_reducible repeat' (first|refine br ?_ ?_<;>intro h e<;>(try simp only[e,go_sem])<;>clear e|rw[q00 (by omega)]|refine sd ?_<;>try simp only[go_sem]|fail)
   refine⟨i+1,by omega,by omega,leN [] ?_ ?_ (by simp[q0f]) (by simp only[go_sem])⟩
   ·simp only[go_sem,hst];omega
   ·simp only[go_sem,hst]
  ·with_reducible repeat' (first|refine br ?_ ?_<;>intro h e<;>(try simp only[e,go_sem])<;>clear e|rw[q00 (by omega)]|refine sd ?_<;>try simp only[go_sem]|fail)
   simp only[hq,go_sem]
   with_reducible repeat' (first|refine br ?_ ?_<;>intro h e<;>(try simp only[e,go_sem])<;>clear e|rw[q00 (by omega)]|refine sd ?_<;>try simp only[go_sem]|fail)
   refine⟨i+1,by omega,by omega,leN [(3000006,3000027)] ?_ ?_ (by simp[q0f]) (by simp only[go_sem])⟩
   ·simp only[go_sem,hst];simp
   ·simp only[go_sem,hst];simp[E.row]
 ·simp only[eq_false h,go_sem]
  have:i=l.length:=by omega
  subst this
  simp only[List.take_length]
  exact⟨trivial,trivial⟩
end Go.Proofs.YtpppoklkijmeoaaGreatDoor.W
